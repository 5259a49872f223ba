import Derived.KernelRfl
import Derived.Test.YtngiefchigcphaaGreatDoorProg
import Derived.ChangeArms
import Derived.OpenShut
import Derived.Test.YtngiefchigcphaaGreatDoorRows
import Derived.LaidHandle
import Derived.WordedOn
import Derived.Test.YtngiefchigcphaaGreatDoorW1
import Derived.Test.YtngiefchigcphaaGreatDoorW2
import Derived.Test.YtngiefchigcphaaGreatDoorW3
import Derived.Test.YtngiefchigcphaaGreatDoorW4
/- A part of the proof of the law AsofEvery: where what it reads holds at most 1048576 values and letters, the call returns true and its arguments read as they did. Conditions: that bound, and that the listed table starts as the program lays it. -/
set_option linter.unusedVariables false
set_option linter.unusedSimpArgs false
namespace Go.Sg
set_option linter.unusedVariables false
set_option linter.unusedSimpArgs false
def pcs:List Int→List Span
 | []=>[]
 | [y]=>bif decide (y < 1099511627776) then [⟨y,1099511627776⟩] else []
 | y::z::l=>bif decide (y < min 1099511627776 z) then ⟨y,min 1099511627776 z⟩::pcs (z::l) else pcs (z::l)
theorem FM (L:List Int):∀ (l pre:List Int),L=pre++l→aX.L1 L [] l pre.length=pcs l
 | [],_,_=>rfl
 | [y],pre,h=>by
  have hl:L.length=pre.length+1:=by rw [h];simp
  have e:decide ((((pre.length+1):Nat):Int) < ((L.length:Nat):Int))=false:=by simp;omega
  simp only [aX.L1,e,cond_false,pcs]
 | y::z::l,pre,h=>by
  have hl:L.length=pre.length+(l.length+2):=by rw [h];simp
  have e:decide ((((pre.length+1):Nat):Int) < ((L.length:Nat):Int))=true:=by simp;omega
  have hz:nthI L (((pre.length+1):Nat):Int)=z:=by
   have hb:0≤(((pre.length+1):Nat):Int)∧(((pre.length+1):Nat):Int) < (L.length:Int):=by omega
   have hg:=eA hb
   rw [show ((((pre.length+1):Nat):Int)).toNat=pre.length+1 from by omega,h,List.getElem?_append_right (by omega)] at hg
   simp at hg;rw [h];exact hg.symm
  have ih:=FM L (z::l) (pre++[y]) (by rw [h];simp)
  rw [List.length_append,List.length_cons,List.length_nil,Nat.zero_add] at ih
  simp only [aX.L1] at ih ⊢
  rw [e,hz]
  simp only [cond_true,pcs]
  rw [ih]
theorem HQ (l:List Int):aX l=pcs l:=FM l l [] rfl
def okS:List Span→Int→Prop
 | [],_=>True
 | x::l,c=>c < x.From∧x.From < x.Until∧x.Until≤1099511627776∧okS l x.Until
def lastU:List Span→Int→Int
 | [],c=>c
 | x::l,_=>lastU l x.Until
theorem tL:∀ (a:List Span) (x:Span) (c:Int),okS (a++[x]) c↔okS a c∧lastU a c < x.From∧x.From < x.Until∧x.Until≤1099511627776
 | [],x,c=>by simp [okS,lastU]
 | y::a,x,c=>by
  simp only [List.cons_append,okS,lastU,tL a x y.Until]
  constructor
  ·rintro ⟨a,b,c,d,e⟩;exact ⟨⟨a,b,c,d⟩,e⟩
  ·rintro ⟨⟨a,b,c,d⟩,e⟩;exact ⟨a,b,c,d,e⟩
theorem nO:∀ (a:List Span) (x:Span) (c:Int),lastU (a++[x]) c=x.Until
 | [],x,c=>rfl
 | y::a,x,c=>nO a x y.Until
theorem Hu (t:Int):∀ s:List Span,gX.L1 t gX.K1 s=s.any fun x=>decide (x.From≤t)&&decide (t < x.Until)
 | []=>rfl
 | x::s=>by
  simp only [gX.L1,List.any_cons,Hu t s]
  cases decide (x.From≤t)&&decide (t < x.Until) <;> rfl
def inS (s:List Span) (t:Int):Bool:=s.any fun x=>decide (x.From≤t)&&decide (t < x.Until)
theorem w5 (a:List Span) (x:Span) (t:Int):inS (a++[x]) t=(inS a t||(decide (x.From≤t)&&decide (t < x.Until))):=by simp [inS]
theorem C6:∀ (a:List Span) (c t:Int),okS a c→lastU a c≤t→c≤lastU a c∧inS a t=false
 | [],c,t,_,_=>⟨Int.le_refl _,rfl⟩
 | x::a,c,t,⟨h1,h2,h3,h4⟩,ht=>by
  obtain ⟨k1,k2⟩:=C6 a x.Until t h4 ht
  refine ⟨by simp only [lastU];omega,?_⟩
  simp only [lastU] at ht
  have:decide (t < x.Until)=false:=by simp;omega
  simp only [inS,List.any_cons,this,Bool.and_false,Bool.false_or] at k2 ⊢
  exact k2
structure Do (f:Int→Bool) (acc:List Span) (c:Int):Prop where
 ok:okS acc (-1)
 le:lastU acc (-1)≤c
 pos:0≤c
 is:∀ t,0≤t→t < c→inS acc t=f t
def stepT (f:Int→Bool) (acc:List Span) (s:Span):List Span:=
 bif !(f s.From) then acc else bif decide (0 < ((acc.length:Nat):Int))&&((nthI acc (((acc.length:Nat):Int) - 1)).Until==s.From) then acc.set ((((acc.length:Nat):Int) - 1):Int).toNat (Span.mk (nthI acc (((acc.length:Nat):Int) - 1)).From s.Until) else acc++[s]
theorem Do.step {f:Int→Bool} {acc:List Span} {c u:Int} (g:Do f acc c) (hu:c < u) (hE:u≤1099511627776) (hf:∀ t,c≤t→t < u→f t=f c):Do f (stepT f acc ⟨c,u⟩) u:=by
 have g3:=g.pos
 have hlow:∀ t,c≤t→inS acc t=false:=fun t ht=>(C6 acc (-1) t g.ok (Int.le_trans g.le ht)).2
 unfold stepT
 cases hfc:f c with
 | false=>
  refine ⟨g.ok,(by show lastU acc (-1)≤u;have:=g.le;omega),by omega,fun t h0 ht=>?_⟩
  by_cases h:t < c
  ·exact g.is t h0 h
  ·rw [hf t (by omega) ht,hfc];exact hlow t (by omega)
 | true=>
  simp only [Bool.not_true,cond_false]
  rcases List.eq_nil_or_concat acc with rfl | ⟨a,x,e⟩
  ·refine ⟨⟨by show (-1:Int) < c;omega,hu,hE,trivial⟩,Int.le_refl _,by omega,fun t h0 ht=>?_⟩
   have hn:=g.is
   by_cases h:t < c
   ·rw [← g.is t h0 h]
    have:decide (c≤t)=false:=by simp;omega
    show (decide (c≤t)&&decide (t < u)||false)=_
    rw [this];rfl
   ·rw [hf t (by omega) ht,hfc]
    have h1:decide (c≤t)=true:=by simp;omega
    have h2:decide (t < u)=true:=by simpa using ht
    show (decide (c≤t)&&decide (t < u)||false)=_
    rw [h1,h2];rfl
  ·rw [List.concat_eq_append] at e
   subst e
   have hlen:(((a++[x]).length:Nat):Int) - 1=(a.length:Int):=by simp
   have hx:nthI (a++[x]) (a.length:Int)=x:=by
    have hb:0≤((a.length:Nat):Int)∧((a.length:Nat):Int) < ((a++[x]).length:Int):=by simp;omega
    have hg:=eA hb
    rw [show ((a.length:Nat):Int).toNat=a.length from by omega] at hg
    simpa using hg.symm
   have hset:(a++[x]).set a.length (Span.mk x.From u)=a++[Span.mk x.From u]:=by simp
   have hpos:decide (0 < (((a++[x]).length:Nat):Int))=true:=by rw [decide_eq_true_eq];rw [List.length_append,List.length_cons];omega
   have ok':=(tL a x (-1)).1 g.ok
   have le':=g.le
   rw [nO] at le'
   have inx:∀ t,inS a t=false∨t < x.From:=fun t=>by
    by_cases h:lastU a (-1)≤t
    ·exact .inl (C6 a (-1) t ok'.1 h).2
    ·exact .inr (by omega)
   rw [hlen,hx,hpos,show ((a.length:Nat):Int).toNat=a.length from by omega,hset,Bool.true_and]
   cases he:x.Until==c with
   | true=>
    have he':x.Until=c:=by simpa using he
    refine ⟨(tL a _ (-1)).2 ⟨ok'.1,ok'.2.1,by show x.From < u;omega,hE⟩,by rw [show cond true _ _=a++[Span.mk x.From u] from rfl,nO];exact Int.le_refl _,by omega,fun t h0 ht=>?_⟩
    show inS (a++[Span.mk x.From u]) t=f t
    rw [w5]
    by_cases h:t < c
    ·rw [← g.is t h0 h,w5]
     have h1:decide (t < u)=true:=by simp;omega
     have h2:decide (t < x.Until)=true:=by simp;omega
     show (inS a t||(decide (x.From≤t)&&decide (t < u)))=_
     rw [h1,h2]
    ·rw [hf t (by omega) ht,hfc]
     have h1:decide (t < u)=true:=by simpa using ht
     have h2:decide (x.From≤t)=true:=by simp;omega
     show (inS a t||(decide (x.From≤t)&&decide (t < u)))=_
     rw [h1,h2];simp
   | false=>
    have he':x.Until≠c:=by simpa using he
    refine ⟨(tL _ _ (-1)).2 ⟨g.ok,by rw [nO];show x.Until < c;omega,hu,hE⟩,by rw [show cond false _ _=(a++[x])++[Span.mk c u] from rfl,nO];exact Int.le_refl _,by omega,fun t h0 ht=>?_⟩
    show inS ((a++[x])++[Span.mk c u]) t=f t
    rw [w5]
    by_cases h:t < c
    ·rw [← g.is t h0 h]
     have h2:decide (c≤t)=false:=by simp;omega
     show (_||(decide (c≤t)&&decide (t < u)))=_
     rw [h2];simp
    ·rw [hf t (by omega) ht,hfc,hlow t (by omega)]
     have h1:decide (t < u)=true:=by simpa using ht
     have h2:decide (c≤t)=true:=by simp;omega
     show (_||(decide (c≤t)&&decide (t < u)))=_
     rw [h1,h2];rfl
theorem BC {f:Int→Bool}:∀ (y:Int) (l:List Int) (acc:List Span),(y::l).Pairwise (· < ·)→y < 1099511627776→Do f acc y→(∀ t u,y≤t→t≤u→(∀ z∈l,t < z→u < z)→f u=f t)→Do f ((pcs (y::l)).foldl (stepT f) acc) 1099511627776
 | y,[],acc,hp,hy,g,hf=>by
  have:decide (y < 1099511627776)=true:=by simpa using hy
  simp only [pcs,this,cond_true,List.foldl]
  exact g.step hy (Int.le_refl _) fun t h1 h2=>hf y t (Int.le_refl _) h1 (fun z hz=>(List.not_mem_nil hz).elim)
 | y,z::l,acc,hp,hy,g,hf=>by
  obtain ⟨hp1,hp2⟩:=List.pairwise_cons.1 hp
  have hyz:=hp1 z (List.mem_cons_self ..)
  have hz2:=List.pairwise_cons.1 hp2
  have e:decide (y < min 1099511627776 z)=true:=by simp;omega
  have cst:∀ t,y≤t→t < min 1099511627776 z→f t=f y:=fun t h1 h2=>hf y t (Int.le_refl _) h1 (fun w hw _=>by
   rcases List.mem_cons.1 hw with rfl | hw
   ·omega
   ·have:=hz2.1 w hw;omega)
  simp only [pcs,e,cond_true,List.foldl]
  have g2:=g.step (u:=min 1099511627776 z) (by omega) (by omega) cst
  by_cases hzE:z < 1099511627776
  ·rw [show min 1099511627776 z=z from by omega] at g2 ⊢
   exact BC z l _ hp2 hzE g2 fun t u h1 h2 h3=>hf t u (by omega) h2 (fun w hw h4=>by
    rcases List.mem_cons.1 hw with rfl | hw
    ·omega
    ·exact h3 w hw h4)
  ·rw [show min 1099511627776 z=1099511627776 from by omega] at g2 ⊢
   have hnil:∀ (l:List Int) (z:Int),(z::l).Pairwise (· < ·)→¬ z < 1099511627776→pcs (z::l)=[]:=by
    intro l
    induction l with
    | nil=>intro z _ h;simp [pcs,h]
    | cons w l ih=>
     intro z hp h
     have h1:=(List.pairwise_cons.1 hp).1 w (List.mem_cons_self ..)
     have e:decide (z < min 1099511627776 w)=false:=by simp;omega
     simp only [pcs,e,cond_false]
     exact ih w (List.pairwise_cons.1 hp).2 (by omega)
   rw [hnil l z hp2 hzE]
   exact g2
end Go.Sg
namespace Go.Sg
set_option linter.unusedVariables false
set_option linter.unusedSimpArgs false
theorem xR (r:Register) (doc:Int) (who:List Int) (known:Int):∀ (ps acc:List Span),
  bp.L1 r doc who known bp.K1 ps acc=(ps.foldl (stepT (bu (cT r doc known).1 who)) acc,0)
 | [],acc=>rfl
 | p::ps,acc=>by
  simp only [bp.L1,List.foldl_cons,xR r doc who known ps]
  unfold stepT
  cases bu (cT r doc known).1 who p.From
  ·rfl
  ·simp only [Bool.not_true,cond_false]
   cases (decide (0 < ((acc.length:Nat):Int))&&((nthI acc (((acc.length:Nat):Int) - 1)).Until==p.From)) <;> rfl
theorem B5 (k:Int→Bool):∀ (s:List Span) (c:Int),okS s c→eJ.L1 k s c=k (lastU s c)
 | [],c,_=>rfl
 | x::s,c,⟨h1,h2,h3,h4⟩=>by
  have e:((decide (x.From≤c)||decide (x.Until≤x.From))||decide (1099511627776 < x.Until))=false:=by simp;omega
  simp only [eJ.L1,e,cond_false,B5 k s x.Until h4,lastU]
theorem rH {α : Type} (g:α→Int):∀ (l:List α) (m:List (Int×Bool)) (x:Int),x∈(l.foldl (fun m y=>mput m (g y) true) m).map (·.1)↔x∈m.map (·.1)∨∃ y∈l,x=g y
 | [],m,x=>by simp
 | y::l,m,x=>by
  rw [List.foldl_cons,rH g l,mC]
  simp only [List.mem_cons,exists_eq_or_imp]
  constructor
  ·rintro ((h | h) | h)
   ·exact .inr (.inl h)
   ·exact .inl h
   ·exact .inr (.inr h)
  ·rintro (h | h | h)
   ·exact .inl (.inr h)
   ·exact .inl (.inl h)
   ·exact .inr h
theorem pT {α : Type} (g:α→Int):∀ (l:List α) (m:List (Int×Bool)),(m.map (·.1)).Nodup→((l.foldl (fun m y=>mput m (g y) true) m).map (·.1)).Nodup
 | [],m,h=>h
 | y::l,m,h=>pT g l _ (ii _ _ h)
theorem ui (q:aU):∀ (l:List Version) (m:List (Int×Bool)) (x:Int),x∈(changeV q l m).map (·.1)↔x∈m.map (·.1)∨∃ v∈l,x=v.At∨∃ y∈v.Policy.Rules,x=q.doc.At+y.Think
 | [],m,x=>by simp [changeV]
 | v::l,m,x=>by
  show x∈(changeV q l (changeR q v.Policy.Rules (mput m v.At true))).map (·.1)↔_
  rw [ui q l]
  unfold changeR
  rw [rH,mC]
  simp only [List.mem_cons,exists_eq_or_imp]
  constructor
  ·rintro (((h | h) | h) | h)
   ·exact .inr (.inl (.inl h))
   ·exact .inl h
   ·exact .inr (.inl (.inr h))
   ·exact .inr (.inr h)
  ·rintro (h | (h | h) | h)
   ·exact .inl (.inl (.inr h))
   ·exact .inl (.inl (.inl h))
   ·exact .inl (.inr h)
   ·exact .inr h
theorem sA (q:aU):∀ (l:List Version) (m:List (Int×Bool)),(m.map (·.1)).Nodup→((changeV q l m).map (·.1)).Nodup
 | [],m,h=>h
 | v::l,m,h=>sA q l _ (pT _ _ _ (ii _ _ h))
def Change (q:aU) (x:Int):Prop:=
 x=0∨x=q.doc.At∨x=q.doc.Until∨(∃ a∈q.Register.Appoints,x=a.At)∨(∃ a∈q.Register.Interests,x=a.At)∨∃ v∈q.Register.Versions,x=v.At∨∃ y∈v.Policy.Rules,x=q.doc.At+y.Think
theorem Cc (q:aU) (x:Int):x∈(changeM q).map (·.1)↔Change q x:=by
 unfold changeM Change
 rw [ui,rH (fun a:Interest=>a.At),rH (fun a:Appoint=>a.At),mC,mC,mC]
 simp only [List.map_nil,List.not_mem_nil,or_false]
 generalize (∃ y,y∈q.Register.Appoints∧x=y.At)=A
 generalize (∃ y,y∈q.Register.Interests∧x=y.At)=B
 generalize (∃ v,v∈q.Register.Versions∧(x=v.At∨∃ y,y∈v.Policy.Rules∧x=q.doc.At+y.Think))=C
 constructor
 ·rintro ((((h | h | h) | h) | h) | h) <;> simp [h]
 ·rintro (h | h | h | h | h | h) <;> simp [h]
theorem Ab (q:aU):((changeM q).map (·.1)).Nodup:=by
 unfold changeM
 exact sA q _ _ (pT _ _ _ (pT _ _ _ (ii _ _ (ii _ _ (ii _ _ List.nodup_nil)))))
theorem un {l:List Int} (h:l.Pairwise (·≤·)) (hn:l.Nodup):l.Pairwise (· < ·):=by
 induction l with
 | nil=>exact List.Pairwise.nil
 | cons x l ih=>
  rw [List.pairwise_cons] at h ⊢
  rw [List.nodup_cons] at hn
  exact ⟨fun y hy=>by have:=h.1 y hy;have:x≠y:=fun e=>hn.1 (e ▸ hy);omega,ih h.2 hn.2⟩
theorem BB {q:aU} {f:Int→Bool} (hpos:∀ x,Change q x→0≤x) (hf:∀ t u,0≤t→t≤u→(∀ z,Change q z→t < z→u < z)→f u=f t):
  Do f ((aH q).foldl (stepT f) []) 1099511627776:=by
 rw [yN,HQ]
 have hs:=kd ((changeM q).map Prod.fst)
 have hp:=jV ((changeM q).map Prod.fst)
 have hn:(sortI ((changeM q).map Prod.fst)).Nodup:=hp.nodup_iff.2 (Ab q)
 have hm:∀ x,x∈sortI ((changeM q).map Prod.fst)↔Change q x:=fun x=>(hp.mem_iff).trans (Cc q x)
 generalize sortI ((changeM q).map Prod.fst)=pts at *
 cases pts with
 | nil=>exact absurd ((hm 0).2 (.inl rfl)) (by simp)
 | cons y l=>
  have h0:y=0:=by
   have h1:=hpos y ((hm y).1 (List.mem_cons_self ..))
   rcases List.mem_cons.1 ((hm 0).2 (.inl rfl)) with h | h
   ·exact h.symm
   ·have:=(List.pairwise_cons.1 hs).1 0 h;omega
  subst h0
  refine BC 0 l [] (un hs hn) (by decide) ⟨trivial,by show (-1:Int)≤0;decide,by decide,fun t h1 h2=>by omega⟩ fun t u h1 h2 h3=>hf t u h1 h2 fun z hz h4=>?_
  rcases List.mem_cons.1 ((hm z).2 hz) with rfl | hz'
  ·omega
  ·exact h3 z hz' h4
end Go.Sg
namespace Go.Sg
set_option linter.unusedVariables false
set_option linter.unusedSimpArgs false
theorem sk {t u known:Int} (k:List (dA×Interest)→List Interest):∀ (l:List Interest) (m:List (dA×Interest)),(∀ y∈l,(t < y.At↔u < y.At))→cd.L1 t known k l m=cd.L1 u known k l m
 | [],m,_=>rfl
 | y::l,m,h=>by
  have e:decide (t < y.At)=decide (u < y.At):=by simp [h y (List.mem_cons_self ..)]
  have ih:=fun m=>sk (known:=known) k l m (fun z hz=>h z (List.mem_cons_of_mem _ hz))
  simp only [cd.L1,e,ih]
theorem yr {l:List Interest} {p:Int} {ps:List Int} {t u known:Int} (ht:0≤t∧t < 1099511627776) (hu:0≤u∧u < 1099511627776) (h:∀ y∈l,(t < y.At↔u < y.At)):cL l p ps t known=cL l p ps u known:=by
 have e1:cd l t known=cd l u known:=sk _ l [] h
 have e2:aL t 1099511627776=aL u 1099511627776:=by simp [aL,ht,hu]
 have e3:bU l p ps t known=bU l p ps u known:=by
  unfold bU
  have:bU.K1 p ps t known=bU.K1 p ps u known:=by funext g;unfold bU.K1;rw [e2]
  rw [this]
 unfold cL
 rw [e1,e3]
theorem zc {t u known:Int} (later:Appoint→Appoint→Bool) (k:List (OSeat×Appoint)→List (OSeat×Appoint)):∀ (l:List Appoint) (m:List (OSeat×Appoint)),(∀ y∈l,(t < y.At↔u < y.At))→ct.L1 (fun cG=>eR cG t known) later k l m=ct.L1 (fun cG=>eR cG u known) later k l m
 | [],m,_=>rfl
 | y::l,m,h=>by
  have e:eR y t known=eR y u known:=by
   have h1:=h y (List.mem_cons_self ..)
   have:decide (y.At≤t)=decide (y.At≤u):=by
    have:y.At≤t↔y.At≤u:=by omega
    simp [this]
   simp only [eR,this]
  have ih:=fun m=>zc (known:=known) later k l m (fun z hz=>h z (List.mem_cons_of_mem _ hz))
  simp only [ct.L1,e,ih]
theorem Ad {l:List Appoint} {o t u known:Int} (ht:0≤t∧t < 1099511627776) (hu:0≤u∧u < 1099511627776) (h:∀ y∈l,(t < y.At↔u < y.At)):cm l o t known=cm l o u known:=by
 have e1:e7 l t known=e7 l u known:=zc _ _ l [] h
 have e2:bI t=bI u:=by
  have h1:∀ x:Int,0≤x∧x < 1099511627776→bI x=true:=fun x hx=>by simp only [bI,cr,Bool.and_eq_true,decide_eq_true_eq];omega
  rw [h1 t ht,h1 u hu]
 unfold cm
 rw [e1,e2]
theorem Cj {l:List Version} {begun t u known:Int} (ht:0≤t∧t < 1099511627776) (hu:0≤u∧u < 1099511627776) (hb:t < begun↔u < begun) (h:∀ y∈l,(t < y.At↔u < y.At)):aA l begun t known=aA l begun u known:=by
 have L:∀ (k:Bool→List Version→List Int×Int×Int) (ps:List (Int×Version)) b g,(∀ p∈ps,(t < p.1↔u < p.1))→aA.L1 begun t k ps b g=aA.L1 begun u k ps b g:=by
  intro k ps
  induction ps with
  | nil=>intros;rfl
  | cons p ps ih=>
   intro b g hp
   have e:decide (t < p.1)=decide (u < p.1):=by simp [hp p (List.mem_cons_self ..)]
   simp only [aA.L1,e,ih _ _ (fun z hz=>hp z (List.mem_cons_of_mem _ hz))]
 have e2:du t=du u:=by simp [du,ht,hu]
 have e3:decide (t < begun)=decide (u < begun):=by simp [hb]
 unfold aA
 rw [e2,e3,L _ _ _ _ (ri (fun p=>(t < p.1↔u < p.1)) (fun y _ _=>hb) (fun y hy _=>h y hy))]
theorem zY {q:aU} (who:List Int) (hU:q.doc.Until≤1099511627776) (hk:0≤q.doc.Kind) {t u:Int} (h0:0≤t) (htu:t≤u) (hs:∀ z,Change q z→t < z→u < z):bu q who u=bu q who t:=by
 have hs':∀ z,Change q z→(t < z↔u < z):=fun z hz=>⟨hs z hz,fun h=>by omega⟩
 have hA:=hs' q.doc.At (.inr (.inl rfl))
 have hUn:=hs' q.doc.Until (.inr (.inr (.inl rfl)))
 have hap:∀ y∈q.Register.Appoints,(t < y.At↔u < y.At):=fun y hy=>hs' _ (.inr (.inr (.inr (.inl ⟨y,hy,rfl⟩))))
 have hin:∀ y∈q.Register.Interests,(t < y.At↔u < y.At):=fun y hy=>hs' _ (.inr (.inr (.inr (.inr (.inl ⟨y,hy,rfl⟩)))))
 have hve:∀ y∈q.Register.Versions,(t < y.At↔u < y.At):=fun y hy=>hs' _ (.inr (.inr (.inr (.inr (.inr ⟨y,hy,.inl rfl⟩)))))
 have hru:∀ v∈q.Register.Versions,∀ y∈v.Policy.Rules,(t < q.doc.At+y.Think↔u < q.doc.At+y.Think):=fun v hv y hy=>hs' _ (.inr (.inr (.inr (.inr (.inr ⟨v,hv,.inr ⟨y,hy,rfl⟩⟩)))))
 have hd:(decide (u < q.doc.At)||decide (q.doc.Until≤u))=(decide (t < q.doc.At)||decide (q.doc.Until≤t)):=by
  have h1:decide (u < q.doc.At)=decide (t < q.doc.At):=by simp [hA]
  have h2:decide (q.doc.Until≤u)=decide (q.doc.Until≤t):=by
   have:q.doc.Until≤u↔q.doc.Until≤t:=by omega
   simp [this]
  rw [h1,h2]
 unfold bu
 rw [hd]
 cases hc:(decide (t < q.doc.At)||decide (q.doc.Until≤t)) with
 | true=>rfl
 | false=>
  simp only [Bool.or_eq_false_iff,decide_eq_false_iff_not] at hc
  have ht:0≤t∧t < 1099511627776:=by omega
  have hu:0≤u∧u < 1099511627776:=by omega
  simp only [cond_false]
  have ej:aC q u=aC q t:=by
   have e:=Cj (l:=q.Register.Versions) (begun:=q.doc.At) (known:=q.known) ht hu hA hve
   have L:∀ (l:List Version) (g:List Policy),aC.L1 q u (aC.K1 q u) l g=aC.L1 q t (aC.K1 q t) l g:=by
    intro l g
    rw [nz,nz,e]
   unfold aC
   rw [← e,L]
  have eh:∀ p,aD q p u=aD q p t:=fun p=>by
   rw [mN,mN]
   exact List.map_congr_left fun j _=>by rw [Ad (known:=q.known) (o:=(j:Int)) ht hu hap]
  have ec:(fun cG=>bj cG q u)=(fun cG=>bj cG q t):=by
   funext a
   unfold bj
   rw [yr (p:=a) (ps:=q.doc.Parties) (known:=q.known) ht hu hin]
  have ek:bu.K1 q u=bu.K1 q t:=by
   funext g
   unfold bu.K1
   rw [ej]
  rw [ej,ek]
  have L:∀ (k:List Bool→Bool) (l:List Policy) (g:List Bool),(∀ p∈l,∃ v∈q.Register.Versions,v.Policy=p)→0≤q.doc.Kind→bu.L1 q who u k l g=bu.L1 q who t k l g:=by
   intro k l
   induction l with
   | nil=>intros;rfl
   | cons p l ih=>
    intro g hl hk
    obtain ⟨v,hv,hvp⟩:=hl p (List.mem_cons_self ..)
    have e:(decide (q.doc.Kind < ((p.Rules.length:Nat):Int))&&decide ((q.doc.At+(nthI p.Rules q.doc.Kind).Think)≤u))=(decide (q.doc.Kind < ((p.Rules.length:Nat):Int))&&decide ((q.doc.At+(nthI p.Rules q.doc.Kind).Think)≤t)):=by
     by_cases hkl:q.doc.Kind < ((p.Rules.length:Nat):Int)
     ·have:=hru v hv (nthI p.Rules q.doc.Kind) (by rw [hvp];exact kv ⟨hk,hkl⟩)
      have h2:(q.doc.At+(nthI p.Rules q.doc.Kind).Think≤u)↔(q.doc.At+(nthI p.Rules q.doc.Kind).Think≤t):=by omega
      simp [h2]
     ·simp [hkl]
    simp only [bu.L1,e,eh,ec,ih _ (fun z hz=>hl z (List.mem_cons_of_mem _ hz)) hk]
  exact L _ _ _ (fun p hp=>sQ hp) hk
end Go.Sg
namespace Go.Sg
set_option linter.unusedVariables false
set_option linter.unusedSimpArgs false
section chk
variable {α : Type} [Inhabited α]
def refChk (R:α→Bool) (no:α→Int) (c:Int) (L:List α):List α→Nat→Int
 | [],_=>0
 | y::l,i=>bif (!(R y))||(decide (0 < ((i:Nat):Int))&&decide (no y≤no (nthI L (((i:Nat):Int) - 1)))) then c else refChk R no c L l (i+1)
def prgChk (R:α→Bool) (no:α→Int) (c:Int):List α→Int→Int
 | [],_=>0
 | y::l,g=>bif (!(R y))||decide (no y≤g) then c else prgChk R no c l (no y)
theorem B9 (R:α→Bool) (no:α→Int) (c:Int) (L:List α):∀ (l pre:List α) (x:α),L=(pre++[x])++l→refChk R no c L l (pre.length+1)=prgChk R no c l (no x)
 | [],_,_,_=>rfl
 | y::l,pre,x,h=>by
  have hx:nthI L (((pre.length+1:Nat):Int) - 1)=x:=by
   have hb:0≤(((pre.length+1:Nat):Int) - 1)∧(((pre.length+1:Nat):Int) - 1) < (L.length:Int):=by rw [h];simp;omega
   have hg:=eA hb
   rw [show ((((pre.length+1:Nat):Int) - 1)).toNat=pre.length from by omega,h] at hg
   rw [h];simpa using hg.symm
  have hd:decide (0 < ((pre.length+1:Nat):Int))=true:=by rw [decide_eq_true_eq];omega
  have ih:=B9 R no c L l (pre++[x]) y (by rw [h];simp)
  rw [List.length_append,List.length_cons,List.length_nil,Nat.zero_add] at ih
  simp only [refChk,prgChk,hx,hd,Bool.true_and,ih]
theorem xM (R:α→Bool) (no:α→Int) (c:Int) (hR:∀ y,R y=true→0≤no y) (l:List α):refChk R no c l l 0=prgChk R no c l (-1):=by
 cases l with
 | nil=>rfl
 | cons y l=>
  have ih:=B9 R no c (y::l) l [] y rfl
  simp only [List.length_nil,Nat.zero_add] at ih
  simp only [refChk,prgChk,Nat.zero_add,ih]
  cases hr:R y with
  | false=>rfl
  | true=>
   have:decide (no y≤-1)=false:=by have:=hR y hr;simp;omega
   rw [this];rfl
end chk
theorem Bb (l:List Appoint):cQ l=ey l:=by
 have hR:∀ x,jw x=gQ x:=fun x=>by
  rw [Bool.eq_iff_iff]
  simp only [jw,gQ,Bool.cond_eq_ite]
  cases x.Gone <;> simp only [if_true,if_false,Bool.false_eq_true,Bool.and_eq_true,Bool.or_eq_true,Bool.not_eq_true',decide_eq_true_eq,decide_eq_false_iff_not,beq_iff_eq,cr,bI,dx,fc,gY,jO,ki,Bool.and_eq_false_iff]
   <;> (split <;> simp only [Bool.false_eq_true,iff_false,decide_eq_true_eq,Bool.and_eq_true,beq_iff_eq] <;> omega)
 have h1:∀ (L l:List Appoint) i,ey.L1 L ey.K1 l i=refChk gQ (·.No) 150 L l i:=by
  intro L l
  induction l with
  | nil=>intro i;rfl
  | cons y l ih=>intro i;simp only [ey.L1,refChk,ih]
 have h2:∀ (l:List Appoint) g,cQ.L1 cQ.K1 l g=prgChk gQ (·.No) 150 l g:=by
  intro l
  induction l with
  | nil=>intro g;rfl
  | cons y l ih=>intro g;simp only [cQ.L1,prgChk,ih,hR]
 unfold cQ ey
 rw [h1,h2,xM]
 intro y hy
 simp only [gQ,Bool.cond_eq_ite] at hy
 split at hy
 ·cases hy
 ·next h=>simp only [Bool.or_eq_true,not_or,decide_eq_true_eq] at h;omega
theorem zX (l:List Deputy):df l=e6 l:=by
 have hR:∀ x,jd x=hY x:=fun x=>by
  rw [Bool.eq_iff_iff]
  simp only [jd,hY,Bool.cond_eq_ite,cS,em,eB,dZ,gP,gW]
  generalize (!(decide (0≤x.No)&&decide (x.No≤1048576))||!(decide (0≤x.At)&&decide (x.At≤1099511627775))||!(decide (0≤x.Known)&&decide (x.Known≤1099511627775))||!(decide (0≤x.From)&&decide (x.From≤63))||!(decide (0≤x.To)&&decide (x.To≤63))||x.From==x.To)=A
  cases A <;> simp
 have h1:∀ (L l:List Deputy) i,e6.L1 L e6.K1 l i=refChk hY (·.No) 160 L l i:=by
  intro L l
  induction l with
  | nil=>intro i;rfl
  | cons y l ih=>intro i;simp only [e6.L1,refChk,ih]
 have h2:∀ (l:List Deputy) g,df.L1 df.K1 l g=prgChk hY (·.No) 160 l g:=by
  intro l
  induction l with
  | nil=>intro g;rfl
  | cons y l ih=>intro g;simp only [df.L1,prgChk,ih,hR]
 unfold df e6
 rw [h1,h2,xM]
 intro y hy
 simp only [hY,Bool.cond_eq_ite] at hy
 split at hy
 ·cases hy
 ·next h=>simp only [Bool.or_eq_true,not_or,decide_eq_true_eq,dZ,Bool.not_eq_true',Bool.and_eq_false_iff,decide_eq_false_iff_not] at h;omega
theorem yn (l:List Interest):cv l=eH l:=by
 have hR:∀ x,iK x=gO x:=fun x=>by
  rw [Bool.eq_iff_iff]
  simp only [iK,gO,Bool.cond_eq_ite,aL,iA,i8,kg]
  cases x.Of <;> simp only [if_true,if_false,Bool.false_eq_true,Bool.and_eq_true,Bool.or_eq_true,Bool.not_eq_true',decide_eq_true_eq,decide_eq_false_iff_not,bne_iff_ne,Bool.and_eq_false_iff]
   <;> (split <;> simp only [Bool.false_eq_true,iff_false,decide_eq_true_eq,Bool.and_eq_true,bne_iff_ne] <;> omega)
 have h1:∀ (L l:List Interest) i,eH.L1 L eH.K1 l i=refChk gO (·.No) 290 L l i:=by
  intro L l
  induction l with
  | nil=>intro i;rfl
  | cons y l ih=>intro i;simp only [eH.L1,refChk,ih]
 have h2:∀ (l:List Interest) g,cv.L1 cv.K1 l g=prgChk gO (·.No) 290 l g:=by
  intro l
  induction l with
  | nil=>intro g;rfl
  | cons y l ih=>intro g;simp only [cv.L1,prgChk,ih,hR]
 unfold cv eH
 rw [h1,h2,xM]
 intro y hy
 simp only [gO,Bool.cond_eq_ite] at hy
 split at hy
 ·cases hy
 ·next h=>simp only [Bool.or_eq_true,not_or,decide_eq_true_eq] at h;omega
end Go.Sg
namespace Go.Sg
set_option linter.unusedVariables false
set_option linter.unusedSimpArgs false
theorem vm (f:Int→Bool):∀ (l:List Int) (i:Nat),decide (0≤bS.L1 f bS.K1 l i)=l.any f
 | [],i=>by simp [bS.L1,bS.K1]
 | y::l,i=>by
  have ih:=vm f l (i+1)
  simp only [bS.L1,List.any_cons]
  by_cases hf:f y=true
  ·simp [hf]
  ·simp only [Bool.not_eq_true] at hf
   simp only [hf,cond_false,Bool.false_or]
   exact ih
theorem containsF (l:List Int) (f:Int→Bool):cJ l f=l.any f:=vm f l 0
theorem Cg (l:List Budget):dj l=fh l:=by
 have hR:∀ x,jy x=hO x:=fun x=>by
  rw [Bool.eq_iff_iff]
  simp only [jy,hO,Bool.cond_eq_ite,aM,containsF,hZ,List.any_cons,List.any_nil,Bool.or_false,ew,gl]
  cases x.Gone <;> simp only [if_true,if_false,Bool.false_eq_true,Bool.and_eq_true,Bool.or_eq_true,Bool.not_eq_true',decide_eq_true_eq,decide_eq_false_iff_not,beq_iff_eq,Bool.and_eq_false_iff,Bool.or_eq_false_iff]
   <;> (split <;> simp only [Bool.false_eq_true,iff_false,decide_eq_true_eq,Bool.and_eq_true,beq_iff_eq] <;> omega)
 have h1:∀ (L l:List Budget) i,fh.L1 L fh.K1 l i=refChk hO (·.No) 180 L l i:=by
  intro L l
  induction l with
  | nil=>intro i;rfl
  | cons y l ih=>intro i;simp only [fh.L1,refChk,ih]
 have h2:∀ (l:List Budget) g,dj.L1 dj.K1 l g=prgChk hO (·.No) 180 l g:=by
  intro l
  induction l with
  | nil=>intro g;rfl
  | cons y l ih=>intro g;simp only [dj.L1,prgChk,ih,hR]
 unfold dj fh
 rw [h1,h2,xM]
 intro y hy
 simp only [hO,Bool.cond_eq_ite] at hy
 split at hy
 ·cases hy
 ·next h=>simp only [Bool.or_eq_true,not_or,decide_eq_true_eq,ew,Bool.not_eq_true',Bool.and_eq_false_iff,decide_eq_false_iff_not] at h;omega
theorem yw (l:List Approval):cz l=fg l:=by
 have hR:∀ x,iL x=gZ x:=fun x=>by
  rw [Bool.eq_iff_iff]
  simp only [iL,gZ,Bool.cond_eq_ite,cw,containsF,gR,List.any_cons,List.any_nil,Bool.or_false,dK,iR,mA]
  simp only [Bool.and_eq_true,Bool.or_eq_true,Bool.not_eq_true',decide_eq_true_eq,decide_eq_false_iff_not,Bool.and_eq_false_iff,Bool.or_eq_false_iff]
  split <;> simp only [Bool.false_eq_true,iff_false,decide_eq_true_eq,Bool.and_eq_true] <;> omega
 have h1:∀ (L l:List Approval) i,fg.L1 L fg.K1 l i=refChk gZ (·.No) 280 L l i:=by
  intro L l
  induction l with
  | nil=>intro i;rfl
  | cons y l ih=>intro i;simp only [fg.L1,refChk,ih]
 have h2:∀ (l:List Approval) g,cz.L1 cz.K1 l g=prgChk gZ (·.No) 280 l g:=by
  intro l
  induction l with
  | nil=>intro g;rfl
  | cons y l ih=>intro g;simp only [cz.L1,prgChk,ih,hR]
 unfold cz fg
 rw [h1,h2,xM]
 intro y hy
 simp only [gZ,Bool.cond_eq_ite] at hy
 split at hy
 ·cases hy
 ·next h=>simp only [Bool.or_eq_true,not_or,decide_eq_true_eq,dK,Bool.not_eq_true',Bool.and_eq_false_iff,decide_eq_false_iff_not] at h;omega
def refLs (B:Int→Bool) (L:List Int) (k:Bool):List Int→Nat→Bool
 | [],_=>k
 | y::l,i=>bif (B y)||(decide (0 < ((i:Nat):Int))&&decide (y≤nthI L (((i:Nat):Int) - 1))) then false else refLs B L k l (i+1)
theorem wx (B:Int→Bool) (L:List Int) (k:Bool):∀ (l pre:List Int) (x:Int),L=(pre++[x])++l→refLs B L k l (pre.length+1)=true→((∀ y∈l,B y=false)∧k=true)∧(x::l).Pairwise (· < ·)
 | [],_,_,_,h=>⟨⟨fun _ h=>(List.not_mem_nil h).elim,h⟩,by simp⟩
 | y::l,pre,x,h,hr=>by
  have hx:nthI L (((pre.length+1:Nat):Int) - 1)=x:=by
   have hb:0≤(((pre.length+1:Nat):Int) - 1)∧(((pre.length+1:Nat):Int) - 1) < (L.length:Int):=by rw [h];simp;omega
   have hg:=eA hb
   rw [show ((((pre.length+1:Nat):Int) - 1)).toNat=pre.length from by omega,h] at hg
   rw [h];simpa using hg.symm
  simp only [refLs,hx,Bool.cond_eq_ite] at hr
  split at hr
  ·cases hr
  ·next hc=>
   simp only [Bool.or_eq_true,Bool.and_eq_true,decide_eq_true_eq,not_or] at hc
   have ih:=wx B L k l (pre++[x]) y (by rw [h];simp)
   rw [List.length_append,List.length_cons,List.length_nil,Nat.zero_add] at ih
   obtain ⟨⟨i1,i2⟩,i3⟩:=ih hr
   have hxy:x < y:=by omega
   refine ⟨⟨fun z hz=>?_,i2⟩,List.pairwise_cons.2 ⟨fun z hz=>?_,i3⟩⟩
   ·rcases List.mem_cons.1 hz with rfl | hz
    ·simpa using hc.1
    ·exact i1 z hz
   ·rcases List.mem_cons.1 hz with rfl | hz
    ·exact hxy
    ·have:=(List.pairwise_cons.1 i3).1 z hz;omega
theorem AS {B:Int→Bool} {k:Bool} {l:List Int} (h:refLs B l k l 0=true):((∀ y∈l,B y=false)∧k=true)∧l.Pairwise (· < ·):=by
 cases l with
 | nil=>exact ⟨⟨fun _ h=>(List.not_mem_nil h).elim,h⟩,List.Pairwise.nil⟩
 | cons y l=>
  simp only [refLs,Bool.cond_eq_ite] at h
  split at h
  ·cases h
  ·next hc=>
   simp only [Bool.or_eq_true,not_or] at hc
   obtain ⟨⟨i1,i2⟩,i3⟩:=wx B (y::l) k l [] y rfl h
   refine ⟨⟨fun z hz=>?_,i2⟩,i3⟩
   rcases List.mem_cons.1 hz with rfl | hz
   ·simpa using hc.1
   ·exact i1 z hz
theorem wv {l:List Int} {limit:Int} (h:el l limit=true):((∀ x∈l,0≤x∧x < limit)∧l.Pairwise (· < ·))∧l.length≤16:=by
 have e:∀ (L l:List Int) i,el.L1 L limit (el.K1 L) l i=refLs (fun y=>decide (y < 0)||decide (limit≤y)) L (el.K1 L) l i:=by
  intro L l
  induction l with
  | nil=>intro i;rfl
  | cons y l ih=>intro i;simp only [el.L1,refLs,ih]
 unfold el at h
 rw [e] at h
 obtain ⟨⟨h1,h2⟩,h3⟩:=AS h
 refine ⟨⟨fun x hx=>?_,h3⟩,?_⟩
 ·have:=h1 x hx;simp only [Bool.or_eq_false_iff,decide_eq_false_iff_not] at this;omega
 ·simp only [el.K1,decide_eq_true_eq] at h2;omega
theorem C1 {l:List Int} (h:eP l=true):(∀ x∈l,0≤x∧x < 64)∧l.Pairwise (· < ·):=by
 have e:∀ (L l:List Int) i,eP.L1 L eP.K1 l i=refLs (fun y=>decide (y < 0)||decide (64≤y)) L true l i:=by
  intro L l
  induction l with
  | nil=>intro i;rfl
  | cons y l ih=>intro i;simp only [eP.L1,refLs,ih]
 unfold eP at h
 rw [e] at h
 obtain ⟨⟨h1,h2⟩,h3⟩:=AS h
 refine ⟨fun x hx=>?_,h3⟩
 have:=h1 x hx;simp only [Bool.or_eq_false_iff,decide_eq_false_iff_not] at this;omega
theorem u0 {d:Document} (h:fS d=true):Cl d:=by
 simp only [fS,Bool.cond_eq_ite] at h
 split at h
 ·cases h
 ·next hc=>
  simp only [Bool.or_eq_true,not_or,decide_eq_true_eq,jp,Bool.not_eq_true',Bool.and_eq_false_iff,decide_eq_false_iff_not] at hc
  simp only [Bool.and_eq_true,decide_eq_true_eq] at h
  obtain ⟨⟨⟨⟨⟨h1,h2⟩,h3⟩,h4⟩,h5⟩,h6⟩:=h
  exact ⟨by omega,by omega,by omega,by omega,⟨h1,h2⟩,h3,wv h4,wv h5,wv h6⟩
end Go.Sg
namespace Go.Sg
set_option linter.unusedVariables false
set_option linter.unusedSimpArgs false
theorem AE (L:List Document):∀ (l:List Document) (i:Nat) (m:List (Int×Int)),(bv.L1 (bv.K1 L) l i m).docs=L∧∀ x,mhas (bv.L1 (bv.K1 L) l i m).at_ x=(mhas m x||l.any fun d=>d.No==x)
 | [],i,m=>⟨rfl,fun x=>by simp [bv.L1,bv.K1]⟩
 | y::l,i,m=>by
  obtain ⟨h1,h2⟩:=AE L l (i+1) (mput m y.No ((i:Nat):Int))
  refine ⟨h1,fun x=>?_⟩
  show mhas (bv.L1 (bv.K1 L) l (i+1) (mput m y.No ((i:Nat):Int))).at_ x=_
  rw [h2 x,List.any_cons]
  have:mhas (mput m y.No ((i:Nat):Int)) x=(mhas m x||y.No==x):=by
   unfold mhas
   rw [za]
   by_cases e:x=y.No
   ·subst e;simp
   ·rw [if_neg e]
    have:(y.No==x)=false:=by simp;exact fun h=>e h.symm
    rw [this,Bool.or_false]
  rw [this,Bool.or_assoc]
theorem vp (no:Int):∀ (l:List Document) (i:Nat),0≤fI.L1 no fI.K1 l i→(l.any fun d=>d.No==no)=true
 | [],i,h=>by simp [fI.L1,fI.K1] at h
 | y::l,i,h=>by
  simp only [fI.L1,Bool.cond_eq_ite] at h
  rw [List.any_cons]
  by_cases e:(y.No==no)=true
  ·rw [e];rfl
  ·rw [if_neg e] at h
   rw [vp no l (i+1) h,Bool.or_true]
theorem yI (L:List Document):∀ nos:List Int,cZ.L1 L cZ.K1 nos=true→∀ x∈nos,(L.any fun d=>d.No==x)=true
 | [],_=>fun _ h=>(List.not_mem_nil h).elim
 | y::nos,h=>by
  simp only [cZ.L1,Bool.cond_eq_ite,decide_eq_true_eq] at h
  split at h
  ·cases h
  ·next hc=>
   intro x hx
   rcases List.mem_cons.1 hx with rfl | hx
   ·exact vp x L 0 (by unfold fI at hc;omega)
   ·exact yI L nos h x hx
theorem H3 {L:List Document} {d:Document} (h1:cZ L d.Revokes=true) (h2:cZ L d.Needs=true):eu (bv L) d=true:=by
 have hs:=(AE L L 0 []).2
 have key:∀ nos,cZ L nos=true→cJ nos (fun cG=>dU cG (bv L))=false:=by
  intro nos hn
  rw [containsF,List.any_eq_false]
  intro x hx
  unfold dU
  have:=yI L nos hn x hx
  have e:mhas (bv L).at_ x=true:=by
   show mhas (bv.L1 (bv.K1 L) L 0 []).at_ x=true
   rw [hs x,this,Bool.or_true]
  rw [e];simp
 unfold eu
 rw [key _ h1,key _ h2];rfl
theorem yq {l:List Document} (h:eI l=0):cn l=0:=by
 have L:∀ (L l:List Document) (i:Nat),eI.L1 L eI.K1 l i=0→cn.L1 L cn.K1 l i=0:=by
  intro L l
  induction l with
  | nil=>intros;rfl
  | cons y l ih=>
   intro i h
   simp only [eI.L1,Bool.cond_eq_ite] at h
   split at h
   ·omega
   ·next hc=>
    simp only [Bool.or_eq_true,not_or,Bool.not_eq_true',Bool.not_eq_false,Bool.not_eq_true] at hc
    obtain ⟨⟨⟨c1,c2⟩,c3⟩,c4⟩:=hc
    simp only [cn.L1,(AO y).2 (u0 c1),c2,H3 c3 c4,Bool.not_true,Bool.or_false,cond_false]
    exact ih (i+1) h
 unfold eI at h
 unfold cn
 rw [Bool.cond_eq_ite] at h ⊢
 split at h
 ·omega
 ·next hc=>rw [if_neg hc];exact L l l 0 h
theorem askIdx (no:Int):∀ (l:List Document) (i:Nat),ab.L1 (fun cG=>aK cG no) ab.K1 l i=cK.L1 no cK.K1 l i
 | [],i=>rfl
 | y::l,i=>by
  have ih:=askIdx no l (i+1)
  simp only [ab.L1,cK.L1]
  rw [ih];rfl
theorem Id {r:Register} {doc known:Int} (h:0≤cK r doc) (hk:0≤known∧known < 1099511627776):cT r doc known=(⟨r,nthI r.Docs (cK r doc),known⟩,true):=by
 have e:ab r.Docs (fun cG=>aK cG doc)=cK r doc:=askIdx doc r.Docs 0
 unfold cT
 rw [e]
 have h1:decide (cK r doc < 0)=false:=by simp;omega
 have h2:jC known=true:=by simp [jC,hk]
 rw [h1,h2]
 rfl
theorem wO:∀ (l:List Int) (g:Int),(∀ x∈l,g < x∧x < 64)→l.Pairwise (· < ·)→fy.L1 fy.K1 l g=true
 | [],_,_,_=>rfl
 | y::l,g,h,hp=>by
  have h1:=h y (List.mem_cons_self ..)
  have e:(decide (y≤g)||decide (64≤y))=false:=by simp;omega
  simp only [fy.L1,e,cond_false]
  exact wO l y (fun x hx=>⟨(List.pairwise_cons.1 hp).1 x hx,(h x (List.mem_cons_of_mem _ hx)).2⟩) (List.pairwise_cons.1 hp).2
theorem Dn {l:List Int} (h:(∀ x∈l,0≤x∧x < 64)∧l.Pairwise (· < ·)):fy l=true:=wO l (-1) (fun x hx=>by have:=h.1 x hx;omega) h.2
end Go.Sg
namespace Go.Sg
set_option linter.unusedVariables false
set_option linter.unusedSimpArgs false
theorem zd (x:Int):∀ (l:List Int) (i:Nat),(0≤dN.L1 x dN.K1 l i)↔x∈l
 | [],i=>by simp [dN.L1,dN.K1]
 | y::l,i=>by
  have ih:=zd x l (i+1)
  simp only [dN.L1,Bool.cond_eq_ite,beq_iff_eq,List.mem_cons]
  by_cases e:x=y
  ·rw [if_pos e];simp [e]
  ·rw [if_neg e,ih];simp [e]
theorem ug (l:List Int) (x:Int):et l x=true↔x∈l:=by
 unfold et
 rw [decide_eq_true_eq]
 exact zd x l 0
theorem Bs (mode:Int) (l:List Version) (old:Bool):(judgesP mode l old).Sublist l:=by
 unfold judgesP gG f9 gF
 cases mode==1 <;> cases mode==2 <;> cases old <;> simp [List.take_sublist,List.drop_sublist]
theorem xU (begun at_:Int) (k:Bool→List Version→List Int×Int×Int):∀ (l:List (Int×Version)) b g,∃ (pre:List (Int×Version)) (b':Bool),pre.Sublist l∧aA.L1 begun at_ k l b g=k b' (g++pre.map (·.2))
 | [],b,g=>⟨[],b,List.Sublist.refl _,by simp [aA.L1]⟩
 | y::l,b,g=>by
  simp only [aA.L1]
  cases decide (at_ < y.1)
  ·obtain ⟨pre,b',h1,h2⟩:=xU begun at_ k l (b||(y.1==begun)) (g++[y.2])
   exact ⟨y::pre,b',h1.cons_cons _,by rw [cond_false,h2];simp⟩
  ·exact ⟨[],b,List.nil_sublist _,by simp⟩
theorem Hh {l:List Version} (h:l.Pairwise (fun a b=>a.No < b.No)) {a b:Version} (ha:a∈l) (hb:b∈l) (e:a.No=b.No):a=b:=by
 induction l with
 | nil=>cases ha
 | cons x l ih=>
  obtain ⟨h1,h2⟩:=List.pairwise_cons.1 h
  rcases List.mem_cons.1 ha with ea | ha' <;> rcases List.mem_cons.1 hb with eb | hb'
  ·rw [ea,eb]
  ·have:=h1 b hb';rw [ea] at e;omega
  ·have:=h1 a ha';rw [eb] at e;omega
  ·exact ih h2 ha' hb'
theorem kQ (known eE:Int):∀ (l:List Version) b m,(m.map (·.1)).Nodup→((inForceM known eE l b m).map (·.1)).Nodup
 | [],b,m,h=>h
 | y::l,b,m,h=>by
  simp only [inForceM,Bool.cond_eq_ite]
  split
  ·exact kQ known eE l _ _ h
  ·split
   ·split
    ·exact kQ known eE l _ _ h
    ·exact kQ known eE l _ _ (ii _ _ h)
   ·exact kQ known eE l _ _ (ii _ _ h)
theorem zM (l:List Version) (eE known:Int):(fa l eE known).Pairwise (fun p q=>p.1 < q.1):=by
 rw [sT,List.pairwise_map]
 exact un (kd _) ((jV _).nodup_iff.2 (kQ known eE l (-1) [] List.nodup_nil))
theorem Bw {l:List Version} (g:sD l) (eE known:Int):(fa l eE known).Pairwise (fun p q=>p.2.No≠q.2.No):=by
 have hP:=ri (l:=l) (eE:=eE) (known:=known) (fun p=>((p.2.At≤eE∧p.1=eE)∨(eE < p.2.At∧p.1=p.2.At))∧p.2∈l) (fun y hy h=>⟨.inl ⟨h,rfl⟩,hy⟩) (fun y hy h=>⟨.inr ⟨h,rfl⟩,hy⟩)
 refine (zM l eE known).imp_of_mem fun {p q} hp hq hlt e=>?_
 have h1:=hP p hp
 have h2:=hP q hq
 have h3:=Hh g.inc h1.2 h2.2 e
 rw [h3] at h1
 omega
structure Jdg (l:List Version) (J:List Int×Int×Int):Prop where
 err:J.2.2=0
 rise:J.1.Pairwise (· < ·)
 mem:∀ x∈J.1,∃ v∈l,v.No=x
 mode:J.1≠[]→1≤J.2.1∧J.2.1≤4
theorem EM {l:List Version} (g:sD l) {begun at_ known:Int} (hb:0≤begun∧begun < 1099511627776) (ht:0≤at_∧at_ < 1099511627776) (hk:0≤known∧known < 1099511627776) (hle:begun≤at_):Jdg l (aA l begun at_ known):=by
 have h0:bz l=0:=(mZ l).2 g
 have h1:∀ x:Int,0≤x∧x < 1099511627776→du x=true:=fun x hx=>by simp [du,hx]
 have h2:decide (at_ < begun)=false:=by simp;omega
 unfold aA
 rw [h0,h1 _ hb,h1 _ ht,h1 _ hk,h2]
 simp only [bne_self_eq_false,cond_false,Bool.not_true,Bool.or_false]
 obtain ⟨pre,b',hs,e⟩:=xU begun at_ aA.K1 (fa l begun known) false []
 rw [e,List.nil_append]
 unfold aA.K1
 cases hc:((((pre.map (·.2)).length:Nat):Int)==0) with
 | true=>exact ⟨rfl,List.Pairwise.nil,fun x hx=>(List.not_mem_nil hx).elim,fun h=>absurd rfl h⟩
 | false=>
  simp only [cond_false,uQ,aA.K2,List.nil_append]
  have hpre:pre.length≠0:=by simpa using hc
  have hsub:=Bs ((nthI (pre.map (·.2)) ((((pre.map (·.2)).length:Nat):Int) - 1)).Policy.Mode) (pre.map (·.2)) b'
  have hnd:(pre.map (·.2)).Pairwise (fun a b=>a.No≠b.No):=by
   rw [List.pairwise_map]
   exact (Bw g begun known).sublist hs
  refine ⟨rfl,un (kd _) ((jV _).nodup_iff.2 ?_),fun x hx=>?_,fun _=>?_⟩
  ·show List.Pairwise _ _
   rw [List.pairwise_map]
   exact hnd.sublist hsub
  ·have hx2:=(jV _).mem_iff.1 hx
   obtain ⟨v,hv,rfl⟩:=List.mem_map.1 hx2
   obtain ⟨p,hp,rfl⟩:=List.mem_map.1 (hsub.subset hv)
   exact ⟨p.2,rh p (hs.subset hp),rfl⟩
  ·have hm:nthI (pre.map (·.2)) ((((pre.map (·.2)).length:Nat):Int) - 1)∈pre.map (·.2):=kv (by rw [List.length_map];omega)
   obtain ⟨p,hp,hpe⟩:=List.mem_map.1 hm
   have:=g.mode (rh p (hs.subset hp))
   rw [hpe] at this
   exact this
theorem zt (no:Int) (k:Version):∀ (l:List Version),l.Pairwise (fun a b=>a.No < b.No)→∀ v∈l,v.No=no→aI.L1 no k l=v
 | x::l,h,v,hv,e=>by
  obtain ⟨h1,h2⟩:=List.pairwise_cons.1 h
  simp only [aI.L1,Bool.cond_eq_ite,beq_iff_eq]
  rcases List.mem_cons.1 hv with rfl | hv
  ·rw [if_pos e]
  ·rw [if_neg (by have:=h1 v hv;omega)]
   exact zt no k l h2 v hv e
theorem C8 {r:Register} (g:sD r.Versions) {J:List Int×Int×Int} (j:Jdg r.Versions J):(r.Versions.filter fun v=>et J.1 v.No)=J.1.map (aI r):=by
 have hmem:∀ x,x∈((r.Versions.filter fun v=>et J.1 v.No).map (·.No))↔x∈J.1:=by
  intro x
  rw [List.mem_map]
  constructor
  ·rintro ⟨v,hv,rfl⟩
   exact (ug _ _).1 (List.mem_filter.1 hv).2
  ·intro hx
   obtain ⟨v,hv,rfl⟩:=j.mem x hx
   exact ⟨v,List.mem_filter.2 ⟨hv,(ug _ _).2 hx⟩,rfl⟩
 have hri:((r.Versions.filter fun v=>et J.1 v.No).map (·.No)).Pairwise (· < ·):=by
  rw [List.pairwise_map]
  exact g.inc.sublist (List.filter_sublist ..)
 have he:(r.Versions.filter fun v=>et J.1 v.No).map (·.No)=J.1:=by
  refine oc (hri.imp fun h=>Int.le_of_lt h) (j.rise.imp fun h=>Int.le_of_lt h) ?_
  exact (List.perm_ext_iff_of_nodup (hri.imp fun h=>by omega) (j.rise.imp fun h=>by omega)).2 hmem
 conv=>rhs;rw [← he]
 rw [List.map_map]
 conv=>lhs;rw [← List.map_id (r.Versions.filter fun v=>et J.1 v.No)]
 apply List.map_congr_left
 intro v hv
 exact (zt v.No _ _ g.inc v (List.mem_filter.1 hv).1 rfl).symm
theorem Dp (mode:Int):(dC mode []).1=false:=by
 unfold dC bo
 have h1:∀ f,bR [] f=-1:=fun _=>rfl
 have h2:decide (0≤(-1:Int))=false:=rfl
 rw [h1,h1,h2]
 cases (gN mode [] != 0) <;> cases (mode==4) <;> cases (mode==3) <;> cases (mode != 4) <;> rfl
theorem Dq {mode:Int} (hm:1≤mode∧mode≤4) {l:List Bool} (hl:l.length≤256):(dC mode l).2=0:=by
 have hc:gN mode l=0:=by
  have h1:mhas jm mode=true:=by
   have:mode=1∨mode=2∨mode=3∨mode=4:=by omega
   rcases this with rfl | rfl | rfl | rfl <;> rfl
  unfold gN
  rw [h1,show decide (256 < ((l.length:Nat):Int))=false from decide_eq_false (by omega)]
  rfl
 have k1:∀ (k:List Int→List Int×Bool×Int),(∀ g,(k g).2.2=0)→∀ (s:List Bool) i g,(bo.L1 k s i g).2.2=0:=by
  intro k hk s
  induction s with
  | nil=>intro i g;exact hk g
  | cons y s ih=>intro i g;exact ih _ _
 have k2:∀ (k:List Int→List Int×Bool×Int),(∀ g,(k g).2.2=0)→∀ (s:List Bool) i g,(bo.L2 k s i g).2.2=0:=by
  intro k hk s
  induction s with
  | nil=>intro i g;exact hk g
  | cons y s ih=>intro i g;exact ih _ _
 have k3:∀ (k:List Int→List Int×Bool×Int),(∀ g,(k g).2.2=0)→∀ (s:List Bool) i g,(bo.L3 k s i g).2.2=0:=by
  intro k hk s
  induction s with
  | nil=>intro i g;exact hk g
  | cons y s ih=>intro i g;exact ih _ _
 show (bo mode l).2.2=0
 unfold bo
 rw [hc]
 simp only [bne_self_eq_false,cond_false,Bool.cond_eq_ite]
 repeat' split
 all_goals first
  | rfl
  | exact k1 _ (fun _=>rfl) _ _ _
  | exact k2 _ (fun _=>rfl) _ _ _
  | exact k3 _ (fun _=>rfl) _ _ _
end Go.Sg
namespace Go.Sg
set_option linter.unusedVariables false
set_option linter.unusedSimpArgs false
theorem Ck {l:List Appoint} (hc:cQ l=0) {o t known:Int} (ho:0≤o∧o < 32) (ht:0≤t∧t < 1099511627776) (hk:0≤known∧known < 1099511627776):(cm l o t known).2=0:=by
 have h1:∀ x:Int,0≤x∧x < 1099511627776→bI x=true:=fun x hx=>by simp only [bI,cr,Bool.and_eq_true,decide_eq_true_eq];omega
 have h2:dx o=true:=by simp only [dx,cr,Bool.and_eq_true,decide_eq_true_eq];omega
 unfold cm
 rw [hc,h1 t ht,h1 known hk,h2]
 rfl
theorem qk (k:Int→Int) (hk:∀ g,k g=0):∀ (l:List Int) (g:Int),(∀ x∈l,g < x∧x≤1048576)→l.Pairwise (· < ·)→bU.L1 k l g=0
 | [],g,_,_=>hk g
 | y::l,g,h,hp=>by
  have h1:=h y (List.mem_cons_self ..)
  have e:(decide (y≤g)||decide (1048576 < y))=false:=by simp;omega
  simp only [bU.L1,e,cond_false]
  exact qk k hk l y (fun x hx=>⟨(List.pairwise_cons.1 hp).1 x hx,(h x (List.mem_cons_of_mem _ hx)).2⟩) (List.pairwise_cons.1 hp).2
theorem Ae {l:List Interest} (hc:cv l=0) {p t known:Int} {ps:List Int} (hp:0≤p∧p < 64) (hps:((∀ x∈ps,0≤x∧x < 1048577)∧ps.Pairwise (· < ·))∧ps.length≤16) (ht:0≤t∧t < 1099511627776) (hk:0≤known∧known < 1099511627776):(cL l p ps t known).2.2=0:=by
 have e:bU l p ps t known=0:=by
  unfold bU
  rw [hc]
  refine qk _ (fun g=>?_) ps (-1) (fun x hx=>by have:=hps.1.1 x hx;omega) hps.1.2
  unfold bU.K1
  have h1:aL p 64=true:=by simp [aL,hp]
  have h2:aL t 1099511627776=true:=by simp [aL,ht]
  have h3:aL known 1099511627776=true:=by simp [aL,hk]
  have h4:decide (16 < ((ps.length:Nat):Int))=false:=by simp;omega
  rw [h1,h2,h3,h4];rfl
 unfold cL
 rw [e];rfl
theorem Hr {r:Register} {t known:Int} (k:List (List Holder)→Bool×Bool):∀ (l:List ByteArray) (i:Nat) (g:List (List Holder)),(∀ j:Nat,i≤j→j < i+l.length→(cm r.Appoints (j:Int) t known).2=0)→bK.L4 r t known k l i g=k (g++(List.range l.length).map fun j=>(cm r.Appoints ((i+j:Nat):Int) t known).1)
 | [],i,g,_=>by simp [bK.L4]
 | y::l,i,g,h=>by
  have h0:=h i (Nat.le_refl _) (by simp)
  have ih:=Hr (r:=r) (t:=t) (known:=known) k l (i+1) (g++[(cm r.Appoints ((i:Nat):Int) t known).1]) (fun j h1 h2=>h j (by omega) (by rw [List.length_cons];omega))
  simp only [bK.L4,h0,bne_self_eq_false,cond_false,ih]
  rw [List.length_cons,List.range_succ_eq_map,List.map_cons,List.map_map,List.append_assoc]
  congr 2
  simp only [List.singleton_append,Nat.add_zero,List.cons.injEq,true_and]
  apply List.map_congr_left
  intro j _
  simp only [Function.comp]
  rw [show i+1+j=i+(j+1) from by omega]
theorem Ht {r:Register} {d:Document} {t known:Int} (k:List Int→Bool×Bool):∀ (l g:List Int),(∀ x∈l,(cL r.Interests x d.Parties t known).2.2=0)→bK.L1 r d t known k l g=k (g++bq l (fun cG=>bj cG ⟨r,d,known⟩ t))
 | [],g,_=>by simp [bK.L1,bq]
 | y::l,g,h=>by
  have h0:=h y (List.mem_cons_self ..)
  have ih:=fun g=>Ht (r:=r) (d:=d) (t:=t) (known:=known) k l g (fun x hx=>h x (List.mem_cons_of_mem _ hx))
  have e:bj y ⟨r,d,known⟩ t=(cL r.Interests y d.Parties t known).2.1:=by
   unfold bj
   show (((cL r.Interests y d.Parties t known).2.2 != 0)||_)=_
   rw [h0];rfl
  simp only [bK.L1,h0,bne_self_eq_false,cond_false,ih,bq,List.filter_cons,e]
  cases (cL r.Interests y d.Parties t known).2.1 <;> simp
theorem Hs {r:Register} {d:Document} {t known:Int} (w:List Int) (k:List Bool→Bool×Bool) (val:Int→Bool):∀ (l:List Int) (g:List Bool),
  (∀ no∈l,∀ k',bK.L4 r t known k' (aI r no).Policy.Offices 0 []=k' (aD ⟨r,d,known⟩ (aI r no).Policy t)) →
  (∀ no∈l,(((((bi ((aI r no).Policy) d.Kind d.Value (aD ⟨r,d,known⟩ (aI r no).Policy t) w).2==0)&&(bi ((aI r no).Policy) d.Kind d.Value (aD ⟨r,d,known⟩ (aI r no).Policy t) w).1)&&decide (d.Kind < ((((aI r no).Policy).Rules.length:Nat):Int)))&&decide ((nthI (((aI r no).Policy).Rules) d.Kind).Think≤(t - d.At)))=val no) →
  bK.L2 r d t known w k l g=k (g++l.map val)
 | [],g,_,_=>by simp [bK.L2]
 | y::l,g,h1,h2=>by
  have ih:=fun g=>Hs (r:=r) (d:=d) (t:=t) (known:=known) w k val l g (fun x hx=>h1 x (List.mem_cons_of_mem _ hx)) (fun x hx=>h2 x (List.mem_cons_of_mem _ hx))
  simp only [bK.L2]
  rw [h1 y (List.mem_cons_self ..)]
  rw [h2 y (List.mem_cons_self ..),ih]
  simp
def cval (q:aU) (who:List Int) (t:Int) (p:Policy):Bool:=
 bif (decide (q.doc.Kind < ((p.Rules.length:Nat):Int))&&decide ((q.doc.At+(nthI p.Rules q.doc.Kind).Think)≤t)) then ((bi p q.doc.Kind q.doc.Value (aD q p t) (bq who (fun cG=>bj cG q t))).1&&((bi p q.doc.Kind q.doc.Value (aD q p t) (bq who (fun cG=>bj cG q t))).2==0))
 else (decide (q.doc.Kind < ((p.Rules.length:Nat):Int))&&decide ((q.doc.At+(nthI p.Rules q.doc.Kind).Think)≤t))
theorem HA (q:aU) (who:List Int) (t:Int) (k:List Bool→Bool):∀ (l:List Policy) (g:List Bool),bu.L1 q who t k l g=k (g++l.map (cval q who t))
 | [],g=>by simp [bu.L1]
 | y::l,g=>by
  have ih:=HA q who t k l
  simp only [bu.L1,ih,List.map_cons]
  unfold cval
  cases (decide (q.doc.Kind < ((y.Rules.length:Nat):Int))&&decide ((q.doc.At+(nthI y.Rules q.doc.Kind).Think)≤t)) <;> simp
theorem Gv {r:Register} {d:Document} {who:List Int} {t known:Int} (ho:cQ r.Appoints=0) (hi:cv r.Interests=0) (hv:sD r.Versions) (hd:Cl d) (hw:∀ x∈who,0≤x∧x < 64)
  (ht:0≤t∧t < 1099511627776) (hk:0≤known∧known < 1099511627776):bK r d who t known=(bu ⟨r,d,known⟩ who t,true):=by
 unfold bK bu
 cases hc:(decide (t < d.At)||decide (d.Until≤t)) with
 | true=>simp only [cond_true,hc]
 | false=>
  simp only [cond_false,hc]
  simp only [Bool.or_eq_false_iff,decide_eq_false_iff_not] at hc
  have j:=EM hv (begun:=d.At) (at_:=t) (known:=known) hd.at_ ht hk (by omega)
  have ej:aC ⟨r,d,known⟩ t=((aA r.Versions d.At t known).1.map fun no=>(aI r no).Policy,(aA r.Versions d.At t known).2.1):=by
   unfold aC
   show (bif ((aA r.Versions d.At t known).2.2 != 0) then _ else _)=_
   rw [j.err]
   simp only [bne_self_eq_false,cond_false]
   rw [nz,List.nil_append]
   show ((List.map _ (List.filter (fun v=>et (aA r.Versions d.At t known).1 v.No) r.Versions)),_)=_
   rw [C8 hv j,List.map_map]
   rfl
  have hlen:=xV r.Versions d.At t known
  have hl256:=hv.len
  rw [ej,j.err]
  dsimp only
  rw [HA]
  generalize hJ:aA r.Versions d.At t known=J at *
  by_cases hn:J.1=[]
  ·rw [hn]
   simp only [bne_self_eq_false,Bool.false_or,List.length_nil,List.map_nil,List.append_nil]
   show (false,true)=_
   unfold bu.K1
   rw [Dp]
   rfl
  ·have h0:(((J.1.length:Nat):Int)==0)=false:=by
    have:J.1.length≠0:=fun h=>hn (List.length_eq_zero_iff.1 h)
    simp;exact hn
   rw [h0]
   simp only [bne_self_eq_false,Bool.or_self,cond_false]
   rw [Ht _ who [] (fun x hx=>Ae hi (hw x hx) hd.parties ht hk),List.nil_append]
   unfold bK.K1
   rw [hJ]
   rw [Hs (val:=fun no=>cval ⟨r,d,known⟩ who t (aI r no).Policy)]
   ·unfold bK.K2 bu.K1
    rw [hJ,ej]
    dsimp only
    rw [List.map_map,List.nil_append,List.nil_append]
    have he:=Dq (mode:=J.2.1) (j.mode hn) (l:=J.1.map fun no=>cval ⟨r,d,known⟩ who t (aI r no).Policy) (by rw [List.length_map];omega)
    rw [show ((cval ⟨r,d,known⟩ who t)∘fun no=>(aI r no).Policy)=fun no=>cval ⟨r,d,known⟩ who t (aI r no).Policy from rfl,he]
    simp
   ·intro no hno k'
    obtain ⟨v,hvm,hve⟩:=j.mem no hno
    have hr:aI r no=v:=zt no _ _ hv.inc v hvm hve
    have hof:=(hv.okV.2 v hvm).1.2
    rw [hr,Hr k' v.Policy.Offices 0 [] (fun i h1 h2=>Ck ho (by omega) ht hk),mN]
    simp
   ·intro no hno
    unfold cval
    dsimp only
    have e:(d.At+(nthI (aI r no).Policy.Rules d.Kind).Think≤t)↔((nthI (aI r no).Policy.Rules d.Kind).Think≤t - d.At):=by omega
    rw [show decide (d.At+(nthI (aI r no).Policy.Rules d.Kind).Think≤t)=decide ((nthI (aI r no).Policy.Rules d.Kind).Think≤t - d.At) from by simp [e]]
    generalize bi (aI r no).Policy d.Kind d.Value (aD ⟨r,d,known⟩ (aI r no).Policy t) (bq who fun cG=>bj cG ⟨r,d,known⟩ t)=P
    cases (P.2==0) <;> cases P.1 <;> cases decide (d.Kind < ((((aI r no).Policy).Rules.length:Nat):Int)) <;> cases decide ((nthI (aI r no).Policy.Rules d.Kind).Think≤t - d.At) <;> rfl
end Go.Sg
namespace Go.Sg
set_option linter.unusedVariables false
set_option linter.unusedSimpArgs false
theorem GB (L:List Appoint):∀ (l:List Appoint) (i:Nat),ey.L1 L ey.K1 l i=0→∀ d∈l,0≤d.At
 | [],_,_=>fun _ h=>(List.not_mem_nil h).elim
 | y::l,i,h=>by
  simp only [ey.L1,Bool.cond_eq_ite] at h
  split at h
  ·omega
  ·next hc=>
   simp only [Bool.or_eq_true,not_or,Bool.not_eq_true',Bool.not_eq_false] at hc
   intro d hd
   rcases List.mem_cons.1 hd with rfl | hd
   ·have h1:=hc.1
    simp only [gQ,Bool.cond_eq_ite] at h1
    split at h1
    ·cases h1
    ·next h2=>simp only [Bool.or_eq_true,not_or,Bool.not_eq_true',Bool.not_eq_false,gY,Bool.and_eq_true,decide_eq_true_eq] at h2;omega
   ·exact GB L l (i+1) h d hd
theorem Gz (L:List Interest):∀ (l:List Interest) (i:Nat),eH.L1 L eH.K1 l i=0→∀ d∈l,0≤d.At
 | [],_,_=>fun _ h=>(List.not_mem_nil h).elim
 | y::l,i,h=>by
  simp only [eH.L1,Bool.cond_eq_ite] at h
  split at h
  ·omega
  ·next hc=>
   simp only [Bool.or_eq_true,not_or,Bool.not_eq_true',Bool.not_eq_false] at hc
   intro d hd
   rcases List.mem_cons.1 hd with rfl | hd
   ·have h1:=hc.1
    simp only [gO,Bool.cond_eq_ite] at h1
    split at h1
    ·cases h1
    ·next h2=>simp only [Bool.or_eq_true,not_or,Bool.not_eq_true',Bool.not_eq_false,iA,Bool.and_eq_true,decide_eq_true_eq] at h2;omega
   ·exact Gz L l (i+1) h d hd
theorem H8 {l:List Appoint} (h:ey l=0):∀ d∈l,0≤d.At:=by
 unfold ey at h
 rw [Bool.cond_eq_ite] at h
 split at h
 ·omega
 ·exact GB l l 0 h
theorem H7 {l:List Interest} (h:eH l=0):∀ d∈l,0≤d.At:=by
 unfold eH at h
 rw [Bool.cond_eq_ite] at h
 split at h
 ·omega
 ·exact Gz l l 0 h
theorem Gm {r:Register} {doc:Int} {who:List Int} {t known:Int} (hV:dp r.Versions=0→bz r.Versions=0):eJ r doc who t known=true:=by
 unfold eJ
 rw [Ep]
 simp only [Bool.not_true,cond_false]
 cases hr:e8 r doc who [t,known] with
 | false=>rfl
 | true=>
  simp only [Bool.not_true,cond_false]
  have q:=tD hr
  have ht:=q.times t (List.mem_cons_self ..)
  have hk:=q.times known (List.mem_cons_of_mem _ (List.mem_cons_self ..))
  obtain ⟨c1,c2,c3,c4,c5,c6,c7⟩:=vu q.check
  have d1:=(Bb r.Appoints).trans c1
  have d3:=(yn r.Interests).trans c3
  have d5:=hV c5
  have hj:fp r=0:=(Bu r).2 ⟨d1,(zX _).trans c2,d3,(Cg _).trans c4,d5,yq c6,(yw _).trans c7⟩
  obtain ⟨hd1,hd2,hd3⟩:=DY q.doc0
  have hd:=u0 ((Ce c6).2 _ hd2)
  have hv:=(mZ r.Versions).1 d5
  have hp:=C1 q.people
  have hask:=Id (r:=r) (doc:=doc) (known:=known) q.doc0 hk
  generalize hdd:nthI r.Docs (cK r doc)=d at *
  have hT:bp r doc who known=((aH ⟨r,d,known⟩).foldl (stepT (bu ⟨r,d,known⟩ who)) [],0):=by
   unfold bp
   rw [hj,xR,hask,Dn hp]
   rfl
  have hg:Do (bu ⟨r,d,known⟩ who) ((aH ⟨r,d,known⟩).foldl (stepT (bu ⟨r,d,known⟩ who)) []) 1099511627776:=by
   refine BB (fun x hx=>?_) fun a b h0 hab hs=>zY who hd.HG hd.kind.1 h0 hab hs
   rcases hx with rfl | rfl | rfl | ⟨a,ha,rfl⟩ | ⟨a,ha,rfl⟩ | ⟨v,hvm,rfl | ⟨y,hy,rfl⟩⟩
   ·exact Int.le_refl _
   ·exact hd.at_.1
   ·have:=hd.eE;show 0≤d.Until;omega
   ·exact H8 c1 a ha
   ·exact H7 c3 a ha
   ·exact (hv.each v hvm).1.1
   ·have h1:=((hv.okV.2 v hvm).2 y hy).1
    have h2:=hd.at_.1
    show 0≤d.At+y.Think;omega
  rw [hT]
  simp only [bne_self_eq_false,cond_false]
  rw [B5 _ _ _ hg.ok]
  unfold eJ.K1
  have hce:=Gv (r:=r) (d:=d) (who:=who) (t:=t) (known:=known) d1 d3 hv hd hp.1 ht hk
  have hin:gX ((aH ⟨r,d,known⟩).foldl (stepT (bu ⟨r,d,known⟩ who)) []) t=bu ⟨r,d,known⟩ who t:=by
   unfold gX
   rw [Hu]
   exact hg.is t ht.1 ht.2
  rw [hdd,hce,hT,hin]
  simp
end Go.Sg
namespace Go.Sg
set_option linter.unusedVariables false
set_option linter.unusedSimpArgs false
theorem uI {β : Type} (F:(Expr→β)→Expr→β) (go:Nat→Expr→β) (h:∀ m,go (m+1)=F (go m)) (hF:∀ f g x,(∀ y∈x.L,f y=g y)→F f x=F g x) (x:Expr):go x.dep x=F (fun y=>go y.dep y) x:=by
 have key:∀ x:Expr,∀ m,x.dep≤m→go m x=go x.dep x:=by
  refine fun x=>Expr.ind (P:=fun x=>∀ m,x.dep≤m→go m x=go x.dep x) ?_ x
  intro x ih m hm
  have hp:=Expr.jR x
  obtain ⟨m',rfl⟩:∃ m',m=m'+1:=⟨m - 1,by omega⟩
  obtain ⟨n,hn⟩:∃ n,x.dep=n+1:=⟨x.dep - 1,by omega⟩
  rw [hn,h,h]
  refine hF _ _ _ fun y hy=>?_
  have:=Expr.iq hy
  rw [ih y hy m' (by omega),ih y hy n (by omega)]
 have hp:=Expr.jR x
 obtain ⟨n,hn⟩:∃ n,x.dep=n+1:=⟨x.dep - 1,by omega⟩
 rw [hn,h]
 refine hF _ _ _ fun y hy=>?_
 have:=Expr.iq hy
 exact key y n (by omega)
theorem GI (x:Expr):bJ x=bJ.F bJ x:=by
 refine uI bJ.F bJ.go (fun m=>rfl) (fun f g x h=>?_) x
 unfold bJ.F
 have:∀ (k:Int→Int) (l:List Expr) a,(∀ y∈l,f y=g y)→bJ.L1 f k l a=bJ.L1 g k l a:=by
  intro k l
  induction l with
  | nil=>intros;rfl
  | cons y l ih=>intro a hl;simp only [bJ.L1,hl y (List.mem_cons_self ..)];exact ih _ fun z hz=>hl z (List.mem_cons_of_mem _ hz)
 exact this _ _ _ h
theorem depthL (l:List Expr):∀ (a:Int),a≤bJ.L1 bJ (fun g=>g) l a∧(∀ y∈l,bJ y≤bJ.L1 bJ (fun g=>g) l a)∧∀ M:Int,a≤M→(∀ y∈l,bJ y≤M)→bJ.L1 bJ (fun g=>g) l a≤M:=by
 induction l with
 | nil=>intro a;exact ⟨Int.le_refl _,fun _ h=>(List.not_mem_nil h).elim,fun M h _=>h⟩
 | cons y l ih=>
  intro a
  obtain ⟨i1,i2,i3⟩:=ih (max a (bJ y))
  simp only [bJ.L1]
  refine ⟨by omega,fun w hw=>?_,fun M h1 h2=>i3 M (by have:=h2 y (List.mem_cons_self ..);omega) fun w hw=>h2 w (List.mem_cons_of_mem _ hw)⟩
  rcases List.mem_cons.1 hw with rfl | hw
  ·omega
  ·exact i2 w hw
theorem depthK (l:List Expr):∀ (a:Int),bJ.L1 bJ bJ.K1 l a=IntKind.i64.wrap (bJ.L1 bJ (fun g=>g) l a+1):=by
 induction l with
 | nil=>intro a;rfl
 | cons y l ih=>intro a;exact ih _
theorem Gr (x:Expr):x.dep≤1500000→(1≤bJ x∧bJ x≤x.dep)∧bJ x=bJ.L1 bJ (fun g=>g) x.L 0+1:=by
 refine Expr.ind (P:=fun x=>x.dep≤1500000→(1≤bJ x∧bJ x≤x.dep)∧bJ x=bJ.L1 bJ (fun g=>g) x.L 0+1) ?_ x
 intro x ih hx
 obtain ⟨i1,i2,i3⟩:=depthL x.L 0
 have hp:=Expr.jR x
 have h3:=i3 ((x.dep:Int) - 1) (by omega) fun y hy=>by
  have h4:=Expr.iq hy
  have:=(ih y hy (by omega)).1.2
  omega
 have e:bJ x=bJ.L1 bJ (fun g=>g) x.L 0+1:=by
  rw [GI]
  unfold bJ.F
  rw [depthK,wrap64 (by omega)]
 exact ⟨by omega,e⟩
theorem B6 (x:Expr):x.dep≤1500000→∀ (d D:Int),bJ x≤D→∀ z∈cg x d,z.depth≤d+D - 1:=by
 refine Expr.ind (P:=fun x=>x.dep≤1500000→∀ (d D:Int),bJ x≤D→∀ z∈cg x d,z.depth≤d+D - 1) ?_ x
 intro x ih hx d D hD z hz
 obtain ⟨h1,h2⟩:=Gr x hx
 rw [lr] at hz
 rcases List.mem_cons.1 hz with rfl | hz
 ·show d≤d+D - 1;omega
 ·obtain ⟨y,hy,hz⟩:=List.mem_flatMap.1 hz
  have h4:=Expr.iq hy
  have h5:=(depthL x.L 0).2.1 y hy
  have:=ih y hy (by omega) (d+1) (D - 1) (by omega) z hz
  omega
theorem GG (x:Expr):cR x=cR.F cR x:=by
 refine uI cR.F cR.go (fun m=>rfl) (fun f g x h=>?_) x
 funext limit
 unfold cR.F
 have:∀ (k:Int→Int) (l:List Expr) a,(∀ y∈l,f y=g y)→cR.L1 f limit k l a=cR.L1 g limit k l a:=by
  intro k l
  induction l with
  | nil=>intros;rfl
  | cons y l ih=>
   intro a hl
   simp only [cR.L1,hl y (List.mem_cons_self ..)]
   rw [ih _ fun z hz=>hl z (List.mem_cons_of_mem _ hz)]
 exact this _ _ _ h
def cnt (x:Expr):Nat:=(cg x 1).length
theorem Iu (x:Expr):∀ d,(cg x d).length=cnt x:=by
 refine Expr.ind (P:=fun x=>∀ d,(cg x d).length=cnt x) ?_ x
 intro x ih d
 unfold cnt
 rw [lr,lr x 1,List.length_cons,List.length_cons,List.length_flatMap,List.length_flatMap]
 congr 2
 apply List.map_congr_left
 intro y hy
 rw [ih y hy,ih y hy]
theorem Gw (x:Expr):cnt x=1+(x.L.map cnt).sum:=by
 conv=>lhs;unfold cnt
 rw [lr,List.length_cons,List.length_flatMap,Nat.add_comm]
 congr 2
 apply List.map_congr_left
 intro y hy
 exact Iu y _
theorem EL (x:Expr):∀ limit:Int,0≤limit→limit≤256→cR x limit=min (cnt x:Int) (limit+1):=by
 refine Expr.ind (P:=fun x=>∀ limit:Int,0≤limit→limit≤256→cR x limit=min (cnt x:Int) (limit+1)) ?_ x
 intro x ih limit h0 h1
 rw [GG,Gw]
 unfold cR.F
 have key:∀ (l:List Expr) (a:Int),(∀ y∈l,y∈x.L)→1≤a→a≤limit+1→cR.L1 cR limit cR.K1 l a=min (a+((l.map cnt).sum:Nat)) (limit+1):=by
  intro l
  induction l with
  | nil=>intro a _ _ ha;simp only [cR.L1,cR.K1,List.map_nil,List.sum_nil];omega
  | cons y l ih2=>
   intro a hl h2 h3
   simp only [cR.L1,Bool.cond_eq_ite,decide_eq_true_eq,List.map_cons,List.sum_cons]
   by_cases ha:a≤limit
   ·rw [if_pos ha,wrap64 (z:=limit - a) (by omega),ih y (hl y (List.mem_cons_self ..)) (limit - a) (by omega) (by omega)]
    have hc:1≤cnt y:=by rw [Gw];omega
    rw [wrap64 (by omega),ih2 _ (fun z hz=>hl z (List.mem_cons_of_mem _ hz)) (by omega) (by omega)]
    omega
   ·rw [if_neg ha]
    simp only [cR.K1]
    omega
 rw [key x.L 1 (fun y hy=>hy) (by omega) (by omega)]
 omega
theorem Bp {x:Expr} (hx:x.dep≤1500000) (h:i9 x=false):(cg x 1).length≤256∧∀ z∈cg x 1,z.depth≤16:=by
 simp only [i9,Bool.or_eq_false_iff,decide_eq_false_iff_not] at h
 have h1:=EL x 256 (by decide) (by decide)
 have h2:=B6 x hx 1 16 (by omega)
 refine ⟨?_,fun z hz=>by have:=h2 z hz;omega⟩
 show cnt x≤256
 omega
end Go.Sg
namespace Go.Sg
set_option linter.unusedVariables false
set_option linter.unusedSimpArgs false
theorem uU (s:ByteArray):∀ (m i:Nat) (r:List UInt8),s.size - i=m→(ByteArray.toList.loop s i r).length=r.length+m
 | 0,i,r,h=>by rw [ByteArray.toList.loop];rw [if_neg (by omega)];simp
 | m+1,i,r,h=>by
  rw [ByteArray.toList.loop,if_pos (by omega),uU s m (i+1) _ (by omega),List.length_cons]
  omega
theorem we (s:ByteArray):s.toList.length=s.size:=by
 have:=uU s s.size 0 [] (by omega)
 simpa [ByteArray.toList] using this
theorem Hn {α : Type} (c:Bool) (a b d:α):(bif c then (bif c then a else b) else d)=bif c then a else d:=by cases c <;> rfl
theorem Ia (c x:Bool):(bif c then false else x)=(!c&&x):=by cases c <;> rfl
theorem H9 (c x:Bool):(bif c then true else x)=(c||x):=by cases c <;> simp
theorem EE (s:ByteArray):dc s=(cN s&&!(kh s)):=by
 unfold dc kh
 simp only [Hn]
 simp only [Ia,H9,Bool.not_or,Bool.or_false]
 ac_rfl
theorem Aa (c:Int):(gi c != 2)=!(gI c):=by
 unfold gi gI
 cases ((decide (97≤c)&&decide (c≤122))||(decide (65≤c)&&decide (c≤90))) <;> cases (decide (48≤c)&&decide (c≤57)) <;> cases (c==95) <;> cases ((((c==32)||(c==9))||(c==10))||(c==13)) <;> cases (decide (0≤(strings_IndexByte (⟨#[123,125,40,41,59,44,61,58,46,60,62,33,43,45,42,47]⟩:ByteArray) c))) <;> rfl
theorem Dk (c:Int):(((gi c != 2)&&(gi c != 3))&&(gi c != 5))=!(lI c):=by
 unfold gi lI gI ju
 cases ((decide (97≤c)&&decide (c≤122))||(decide (65≤c)&&decide (c≤90))) <;> cases (decide (48≤c)&&decide (c≤57)) <;> cases (c==95) <;> cases ((((c==32)||(c==9))||(c==10))||(c==13)) <;> cases (decide (0≤(strings_IndexByte (⟨#[123,125,40,41,59,44,61,58,46,60,62,33,43,45,42,47]⟩:ByteArray) c))) <;> rfl
theorem D1 (s:ByteArray):∀ (l:List Nat) (i:Nat),cN.L1 s cN.K1 l i=fE.L1 s fE.K1 l i
 | [],i=>rfl
 | y::l,i=>by simp only [cN.L1,fE.L1,Dk,D1 s l]
theorem He {s:ByteArray} (h:fE s=true):cN s=true:=by
 unfold fE at h
 unfold cN
 rw [Aa,D1]
 rw [Bool.cond_eq_ite] at h ⊢
 split at h
 ·cases h
 ·next hc=>
  simp only [Bool.or_eq_true,not_or,decide_eq_true_eq] at hc
  obtain ⟨⟨h1,h2⟩,h3⟩:=hc
  have e:(s.toList==(⟨#[]⟩:ByteArray).toList)=false:=by
   rw [Bool.eq_false_iff]
   intro he
   have he:=eq_of_beq he
   have h9:=we s
   rw [he,we] at h9
   have:(⟨#[]⟩:ByteArray).size=0:=rfl
   omega
  rw [e,if_neg]
  ·exact h
  ·simp only [Bool.false_or,Bool.or_eq_true,not_or,decide_eq_true_eq]
   exact ⟨h2,h3⟩
theorem D8 {s:ByteArray} (h:jo s=true):dc s=true:=by
 simp only [jo,Bool.and_eq_true] at h
 rw [EE,He h.1,h.2];rfl
theorem yM (s:ByteArray):∀ (l:List ByteArray) (i:Nat),dk.L1 s dk.K1 l i=aQ.L1 s aQ.K1 l i
 | [],i=>rfl
 | y::l,i=>by
  have:(y.toList==s.toList)=(s.toList==y.toList):=by rw [Bool.eq_iff_iff,beq_iff_eq,beq_iff_eq];exact eq_comm
  simp only [dk.L1,aQ.L1,this,yM s l]
theorem rindex (l:List ByteArray) (s:ByteArray):dk l s=aQ l s:=yM s l 0
theorem vt {l:List ByteArray} (h:dV l=true):bE l dc=true:=by
 have key:∀ (L l:List ByteArray) (i:Nat),dV.L1 L dV.K1 l i=true→bE.L1 L dc bE.K1 l i=true:=by
  intro L l
  induction l with
  | nil=>intros;rfl
  | cons y l ih=>
   intro i h
   simp only [dV.L1,Bool.cond_eq_ite] at h
   split at h
   ·cases h
   ·next hc=>
    simp only [Bool.or_eq_true,not_or,Bool.not_eq_true',Bool.not_eq_false,Bool.not_eq_true] at hc
    simp only [bE.L1,D8 hc.1,← rindex,hc.2,Bool.not_true,Bool.or_self,cond_false]
    exact ih _ h
 exact key l l 0 h
theorem oB (off:List ByteArray) {f g:List ByteArray→Expr→Bool} (k:Bool):∀ (l:List Expr),(∀ y∈l,f off y=g off y)→cj.L1 f off k l=cj.L1 g off k l
 | [],_=>rfl
 | y::l,h=>by simp only [cj.L1,h y (List.mem_cons_self ..),oB off k l fun z hz=>h z (List.mem_cons_of_mem _ hz)]
theorem FU (off:List ByteArray) (x:Expr):cj off x=cj.F cj off x:=by
 have:=uI (fun f x=>cj.F (fun _ y=>f y) off x) (fun m x=>cj.go m off x) (fun m=>?_) (fun f g x h=>?_) x
 ·refine Eq.trans this ?_
  show cj.F _ off x=_
  unfold cj.F
  rw [oB off (f:=fun _ y=>cj.go y.dep off y) (g:=cj) _ x.L fun y hy=>rfl]
 ·funext x
  show cj.F (cj.go m) off x=cj.F _ off x
  unfold cj.F
  rw [oB off (f:=cj.go m) (g:=fun _ y=>cj.go m off y) _ x.L fun y hy=>rfl]
 ·show cj.F _ off x=cj.F _ off x
  unfold cj.F
  rw [oB off (f:=fun _ y=>f y) (g:=fun _ y=>g y) _ x.L h]
theorem yX (off:List ByteArray):∀ (l:List Expr),cj.L1 cj off cj.K1 l=true→∀ y∈l,cj off y=true
 | [],_=>fun _ h=>(List.not_mem_nil h).elim
 | y::l,h=>by
  simp only [cj.L1,Bool.cond_eq_ite] at h
  split at h
  ·cases h
  ·next hc=>
   intro z hz
   rcases List.mem_cons.1 hz with rfl | hz
   ·simpa using hc
   ·exact yX off l h z hz
theorem Bf (off:List ByteArray) (x:Expr):cj off x=true→∀ d,∀ z∈cg x d,((!(da z.x))||dr off z.x.Name)=true:=by
 refine Expr.ind (P:=fun x=>cj off x=true→∀ d,∀ z∈cg x d,((!(da z.x))||dr off z.x.Name)=true) ?_ x
 intro x ih h d z hz
 rw [FU] at h
 unfold cj.F at h
 rw [Bool.cond_eq_ite] at h
 split at h
 ·cases h
 ·next hc=>
  rw [lr] at hz
  rcases List.mem_cons.1 hz with rfl | hz
  ·show ((!(da x))||dr off x.Name)=true
   unfold dr da
   rw [rindex] at hc
   by_cases h2:aQ off x.Name < 0
   ·have:decide (aQ off x.Name < 0)=true:=by simpa using h2
    rw [this,Bool.and_true] at hc
    simp only [Bool.not_eq_true] at hc
    rw [hc];rfl
   ·have:decide (0≤aQ off x.Name)=true:=by simp;omega
    rw [this,Bool.or_true]
  ·obtain ⟨y,hy,hz⟩:=List.mem_flatMap.1 hz
   exact ih y hy (yX off x.L h y hy) (d+1) z hz
end Go.Sg
namespace Go.Sg
set_option linter.unusedVariables false
set_option linter.unusedSimpArgs false
theorem ns (u:Bool) {f g:Expr→Bool→Bool} (k:Bool):∀ (l:List Expr),(∀ y∈l,f y u=g y u)→aS.L1 f u k l=aS.L1 g u k l
 | [],_=>rfl
 | y::l,h=>by simp only [aS.L1,h y (List.mem_cons_self ..),ns u k l fun z hz=>h z (List.mem_cons_of_mem _ hz)]
theorem EF (x:Expr) (u:Bool):aS x u=aS.F aS x u:=by
 have:=uI (fun f x=>aS.F (fun y _=>f y) x u) (fun m x=>aS.go m x u) (fun m=>?_) (fun f g x h=>?_) x
 ·refine Eq.trans this ?_
  show aS.F _ x u=_
  unfold aS.F
  rw [ns u (f:=fun y _=>aS.go y.dep y u) (g:=aS) _ x.L fun y hy=>rfl]
 ·funext x
  show aS.F (aS.go m) x u=aS.F _ x u
  unfold aS.F
  rw [ns u (f:=aS.go m) (g:=fun y _=>aS.go m y u) _ x.L fun y hy=>rfl]
 ·show aS.F _ x u=aS.F _ x u
  unfold aS.F
  rw [ns u (f:=fun y _=>f y) (g:=fun y _=>g y) _ x.L h]
theorem xz (u k:Bool):∀ (l:List Expr),aS.L1 aS u k l=true→(∀ y∈l,aS y u=true)∧k=true
 | [],h=>⟨fun _ h=>(List.not_mem_nil h).elim,h⟩
 | y::l,h=>by
  simp only [aS.L1,Bool.cond_eq_ite] at h
  split at h
  ·cases h
  ·next hc=>
   obtain ⟨h1,h2⟩:=xz u k l h
   refine ⟨fun z hz=>?_,h2⟩
   rcases List.mem_cons.1 hz with rfl | hz
   ·simpa using hc
   ·exact h1 z hz
theorem EG {x:Expr} {u:Bool} (h:aS.K1 x u=true):(aR x.Kind 1 4&&kindsP x.Kind x)=true∧(u=false→x.Kind≠4):=by
 unfold aS.K1 at h
 simp only [Bool.cond_eq_ite,beq_iff_eq] at h
 split at h
 ·next e=>
  rw [e]
  refine ⟨?_,fun _=>by decide⟩
  show (_&&jB x)=true
  unfold jB
  rw [h];rfl
 ·split at h
  ·next e=>
   rw [e]
   refine ⟨?_,fun _=>by decide⟩
   show (_&&jA x)=true
   unfold jA aR
   rw [h];rfl
  ·split at h
   ·next e=>
    rw [e]
    refine ⟨?_,fun _=>by decide⟩
    show (_&&jz x)=true
    unfold jz aR
    simp only [Bool.and_eq_true] at h ⊢
    exact ⟨⟨rfl,rfl⟩,⟨h.1.1.1.1,h.1.1.1.2,h.1.1.2⟩,h.1.2,h.2⟩
   ·split at h
    ·next e=>
     rw [e]
     simp only [Bool.and_eq_true] at h
     refine ⟨?_,fun hu=>by rw [hu] at h;simp at h⟩
     show (_&&iS x)=true
     unfold iS aR
     simp only [Bool.and_eq_true]
     exact ⟨⟨rfl,rfl⟩,⟨h.1.1.1.2,h.1.1.2⟩,h.1.2,h.2⟩
    ·cases h
theorem zk (u:Bool) (x:Expr):aS x u=true→∀ d,∀ z∈cg x d,(aR z.x.Kind 1 4&&kindsP z.x.Kind z.x)=true∧(u=false→z.x.Kind≠4):=by
 refine Expr.ind (P:=fun x=>aS x u=true→∀ d,∀ z∈cg x d,(aR z.x.Kind 1 4&&kindsP z.x.Kind z.x)=true∧(u=false→z.x.Kind≠4)) ?_ x
 intro x ih h d z hz
 rw [EF] at h
 obtain ⟨h1,h2⟩:=xz u _ x.L h
 rw [lr] at hz
 rcases List.mem_cons.1 hz with rfl | hz
 ·exact EG h2
 ·obtain ⟨y,hy,hz⟩:=List.mem_flatMap.1 hz
  exact ih y hy (h1 y hy) (d+1) z hz
end Go.Sg
namespace Go.Sg
set_option linter.unusedVariables false
set_option linter.unusedSimpArgs false
theorem rl1 (rec:List ByteArray→Expr→Expr) (off:List ByteArray) (k:List Expr→Expr):∀ (l g:List Expr),ak.L1 rec off k l g=k (g++l.map (rec off))
 | [],g=>by simp [ak.L1]
 | y::l,g=>by simp [ak.L1,rl1 rec off k l]
theorem rl2 (rec:List ByteArray→Expr→Expr) (off:List ByteArray) (k:List Expr→Expr):∀ (l g:List Expr),ak.L2 rec off k l g=k (g++l.map (rec off))
 | [],g=>by simp [ak.L2]
 | y::l,g=>by simp [ak.L2,rl2 rec off k l]
def rno (off:List ByteArray) (x:Expr):Int:=bif da x then aQ off x.Name else 0
theorem C2 (rec:List ByteArray→Expr→Expr) (off:List ByteArray) (x:Expr):ak.F rec off x=Expr.mk x.Kind x.N (rno off x) x.Name (x.L.map (rec off)):=by
 unfold ak.F rno da
 cases ((x.Kind==1)||(x.Kind==2))
 ·rw [cond_false,rl2];rfl
 ·rw [cond_true,rl1];unfold ak.K1;rw [rindex];rfl
theorem AQ (off:List ByteArray) (x:Expr):ak off x=Expr.mk x.Kind x.N (rno off x) x.Name (x.L.map (ak off)):=by
 have:=uI (fun f x=>Expr.mk x.Kind x.N (rno off x) x.Name (x.L.map f)) (fun m x=>ak.go m off x) (fun m=>?_) (fun f g x h=>?_) x
 ·exact this
 ·funext x
  show ak.F (ak.go m) off x=_
  rw [C2]
 ·show Expr.mk _ _ _ _ _=Expr.mk _ _ _ _ _
  rw [List.map_congr_left h]
theorem wl (b:Expr) {f g:Expr→Expr→Bool} (k:Bool):∀ (l:List Expr) (i:Nat),(∀ y∈l,f y=g y)→bM.L1 f b k l i=bM.L1 g b k l i
 | [],_,_=>rfl
 | y::l,i,h=>by simp only [bM.L1,h y (List.mem_cons_self ..),wl b k l (i+1) fun z hz=>h z (List.mem_cons_of_mem _ hz)]
theorem GX (x:Expr):bM x=bM.F bM x:=by
 refine uI bM.F bM.go (fun m=>rfl) (fun f g x h=>?_) x
 funext b
 unfold bM.F
 rw [wl b _ x.L 0 h]
theorem DW (b:Expr):∀ (l:List Expr) (i:Nat),bM.L1 bM b bM.K1 l i=true→∀ (j:Nat) (y:Expr),l[j]? = some y→bM y (nthI b.L ((i+j:Nat):Int))=true
 | [],_,_,j,y,hj=>by simp at hj
 | z::l,i,h,j,y,hj=>by
  simp only [bM.L1,Bool.cond_eq_ite] at h
  split at h
  ·cases h
  ·next hc=>
   cases j with
   | zero=>simp at hj;subst hj;simpa using hc
   | succ j=>have:=DW b l (i+1) h j y (by simpa using hj);rw [show i+(j+1)=i+1+j from by omega];exact this
theorem GW (off:List ByteArray) (x:Expr):bM (ak off x) x=true→∀ d,∀ z∈cg x d,z.x.No=rno off z.x:=by
 refine Expr.ind (P:=fun x=>bM (ak off x) x=true→∀ d,∀ z∈cg x d,z.x.No=rno off z.x) ?_ x
 intro x ih h d z hz
 rw [GX,AQ] at h
 unfold bM.F at h
 rw [Bool.cond_eq_ite] at h
 split at h
 ·cases h
 ·next hc=>
  simp only [Bool.or_eq_true,not_or,bne_iff_ne,ne_eq,Classical.not_not] at hc
  have hno:rno off x=x.No:=hc.1.1.2
  rw [lr] at hz
  rcases List.mem_cons.1 hz with rfl | hz
  ·exact hno.symm
  ·obtain ⟨y,hy,hz⟩:=List.mem_flatMap.1 hz
   obtain ⟨j,hj⟩:=List.getElem?_of_mem hy
   have h2:=DW x _ 0 h j (ak off y) (by show (List.map (ak off) x.L)[j]? = _;rw [List.getElem?_map,hj];rfl)
   have hlt:=(List.getElem?_eq_some_iff.1 hj).1
   have hg:=eA (xs:=x.L) (z:=((0+j:Nat):Int)) (by omega)
   rw [show (((0+j:Nat):Int)).toNat=j from by omega,hj] at hg
   rw [← Option.some.inj hg] at h2
   exact ih y hy h2 (d+1) z hz
theorem u9 {off:List ByteArray} {x:Expr} (h:bM (ak off x) x=true):cf off x=true:=by
 unfold cf cf.K1
 rw [ol]
 exact GW off x h 1
end Go.Sg
namespace Go.Sg
set_option linter.unusedVariables false
set_option linter.unusedSimpArgs false
def rrules (off:List ByteArray):List Rule→Nat→List Rule
 | [],_=>[]
 | y::l,i=>Rule.mk y.Kind ((i:Nat):Int) y.Think (ak off y.Expr)::rrules off l (i+1)
theorem wu (off:List ByteArray):∀ (l:List Rule) (i j:Nat) (y:Rule),l[j]? = some y→(rrules off l i)[j]? = some (Rule.mk y.Kind ((i+j:Nat):Int) y.Think (ak off y.Expr))
 | [],_,j,y,h=>by simp at h
 | z::l,i,0,y,h=>by simp at h;subst h;rfl
 | z::l,i,j+1,y,h=>by
  have:=wu off l (i+1) j y (by simpa using h)
  rw [show i+(j+1)=i+1+j from by omega]
  exact this
theorem xS (p:Policy):∀ (l:List Rule) (i:Nat) (g:List Rule),dh.L1 p (dh.K1 p) l i g=(Policy.mk p.Name p.Kinds p.Offices (g++rrules p.Offices l i) (ak p.Offices p.Change) p.Mode,0)
 | [],i,g=>by
  simp only [dh.L1,dh.K1,rrules,List.append_nil,Expr.eta]
 | y::l,i,g=>by
  simp only [dh.L1,xS p l,rrules,Expr.eta,List.append_assoc,List.singleton_append]
theorem Eg (b:Policy):∀ (l:List Rule) (i:Nat),gk.L1 b gk.K1 l i=true→∀ (j:Nat) (y:Rule),l[j]? = some y→y.KindNo=(nthI b.Rules ((i+j:Nat):Int)).KindNo∧bM y.Expr (nthI b.Rules ((i+j:Nat):Int)).Expr=true
 | [],_,_,j,y,hj=>by simp at hj
 | z::l,i,h,j,y,hj=>by
  simp only [gk.L1,Bool.cond_eq_ite] at h
  split at h
  ·cases h
  ·next hc=>
   simp only [Bool.or_eq_true,not_or,bne_iff_ne,ne_eq,Classical.not_not,Bool.not_eq_true',Bool.not_eq_false] at hc
   cases j with
   | zero=>simp at hj;subst hj;exact ⟨hc.1.1.2,hc.2⟩
   | succ j=>have:=Eg b l (i+1) h j y (by simpa using hj);rw [show i+(j+1)=i+1+j from by omega];exact this
theorem yW (p:Policy) (k:Bool):∀ (l:List Rule),fG.L1 p k l=true→(∀ r∈l,cj p.Offices r.Expr=true)∧k=true
 | [],h=>⟨fun _ h=>(List.not_mem_nil h).elim,h⟩
 | y::l,h=>by
  simp only [fG.L1,Bool.cond_eq_ite] at h
  split at h
  ·cases h
  ·next hc=>
   obtain ⟨h1,h2⟩:=yW p k l h
   refine ⟨fun z hz=>?_,h2⟩
   rcases List.mem_cons.1 hz with rfl | hz
   ·simpa using hc
   ·exact h1 z hz
theorem Bq (k:Bool):∀ (l:List Rule),eQ.L1 k l=false→∀ r∈l,i9 r.Expr=false
 | [],_=>fun _ h=>(List.not_mem_nil h).elim
 | y::l,h=>by
  simp only [eQ.L1,Bool.cond_eq_ite] at h
  split at h
  ·cases h
  ·next hc=>
   intro z hz
   rcases List.mem_cons.1 hz with rfl | hz
   ·simpa using hc
   ·exact Bq k l h z hz
theorem xA (p:Policy) (k:Bool):∀ (l:List Rule) (i:Nat),fj.L1 p k l i=true→(∀ (j:Nat) r,l[j]? = some r→((r.Kind.toList==(nthI p.Kinds (((i+j:Nat):Int))).toList)=true∧0≤r.Think∧r.Think < 1099511627776)∧aS r.Expr true=true)∧k=true
 | [],i,h=>⟨fun j r hj=>by simp at hj,h⟩
 | y::l,i,h=>by
  simp only [fj.L1,Bool.cond_eq_ite] at h
  split at h
  ·cases h
  ·next hc=>
   simp only [Bool.or_eq_true,not_or,decide_eq_true_eq,Bool.not_eq_true',Bool.not_eq_false] at hc
   obtain ⟨h1,h2⟩:=xA p k l (i+1) h
   refine ⟨fun j r hj=>?_,h2⟩
   cases j with
   | zero=>simp at hj;subst hj;exact ⟨⟨hc.1.1.1,by omega,by omega⟩,hc.2⟩
   | succ j=>have:=h1 j r (by simpa using hj);rw [show i+(j+1)=i+1+j from by omega];exact this
theorem Gx {p:Policy} (hs:smP p) (h:fo p=0):cC p=0:=by
 unfold fo at h
 rw [Bool.cond_eq_ite] at h
 split at h
 ·next hc=>exact absurd h (by simpa using hc)
 ·next hR=>
  rw [Bool.cond_eq_ite] at h
  split at h
  ·omega
  ·next hS=>
   simp only [Bool.not_eq_true',Bool.not_eq_false] at hS
   unfold dh at hR hS
   cases hl:eQ p with
   | true=>rw [hl] at hR;simp at hR
   | false=>
    rw [hl] at hR hS
    cases hn:fG p with
    | false=>rw [hn] at hR;simp at hR
    | true=>
     rw [hn] at hR hS
     cases hf:fj p with
     | false=>rw [hf] at hR;simp at hR
     | true=>
      rw [hf] at hS
      simp only [Bool.not_true,cond_false,xS,List.nil_append] at hS
      clear hR h
      unfold eQ at hl
      rw [Bool.cond_eq_ite] at hl
      split at hl
      ·cases hl
      ·next h1=>
       simp only [Bool.or_eq_true,not_or,decide_eq_true_eq,Bool.not_eq_true] at h1
       have h2:=Bq _ _ hl
       unfold fG at hn
       rw [Bool.cond_eq_ite] at hn
       split at hn
       ·cases hn
       ·next h3=>
        simp only [Bool.or_eq_true,not_or,Bool.not_eq_true',Bool.not_eq_false] at h3
        obtain ⟨h4,h5⟩:=yW p _ _ hn
        unfold fj at hf
        rw [Bool.cond_eq_ite] at hf
        split at hf
        ·cases hf
        ·next h6=>
         simp only [Bool.or_eq_true,not_or,decide_eq_true_eq,bne_iff_ne,ne_eq,Classical.not_not] at h6
         obtain ⟨h7,h8⟩:=xA p _ _ 0 hf
         unfold gk at hS
         rw [Bool.cond_eq_ite] at hS
         split at hS
         ·cases hS
         ·next h9=>
          simp only [Bool.or_eq_true,not_or,Bool.not_eq_true',Bool.not_eq_false] at h9
          have h10:=Eg p _ 0 hS
          have hexp:∀ x,x∈aF p→(∃ r∈p.Rules,r.Expr=x)∨x=p.Change:=by
           intro x hx
           rw [pq] at hx
           simp only [List.mem_append,List.mem_map,List.mem_singleton] at hx
           exact hx
          rw [xN,qI,wj,Bc]
          refine ⟨⟨⟨⟨by omega,by omega,by omega⟩,fun x hx=>?_⟩,⟨⟨D8 h3.1.1,vt h3.1.2,vt h3.2⟩,fun x hx=>?_⟩,?_⟩,fun j r hj=>?_,u9 h9.2⟩
          ·rcases hexp x hx with ⟨r,hr,rfl⟩ | rfl
           ·exact Bp (hs.2.1 r hr) (h2 r hr)
           ·exact Bp hs.2.2.1 h1.2
          ·rcases hexp x hx with ⟨r,hr,rfl⟩ | rfl
           ·exact Bf p.Offices _ (h4 r hr) 1
           ·exact Bf p.Offices _ h5 1
          ·unfold bD bD.K1 bD.K2
           rw [np,vT,zO]
           refine ⟨?_,fun j r hj=>?_,fun j x hj z hz=>?_⟩
           ·simp only [Bool.and_eq_true,decide_eq_true_eq,beq_iff_eq,aR]
            exact ⟨⟨by omega,h6.1.1.2⟩,by omega,by omega⟩
           ·have:=(h7 j r hj).1
            simp only [Bool.and_eq_true,decide_eq_true_eq,aR]
            exact ⟨this.1,this.2.1,by omega⟩
           ·have hlen:(aF p).length=p.Rules.length+1:=by rw [pq];simp
            rw [pq] at hj
            rcases Nat.lt_or_ge j p.Rules.length with hjl | hjl
            ·rw [List.getElem?_append_left (by simpa using hjl),List.getElem?_map] at hj
             obtain ⟨r,hr,rfl⟩:=Option.map_eq_some_iff.1 hj
             refine ⟨(zk true _ (h7 j r hr).2 1 z hz).1,?_⟩
             rw [hlen,wrap64 (by omega)]
             have:decide (((0+j:Nat):Int) < ((p.Rules.length+1:Nat):Int) - 1)=true:=by rw [decide_eq_true_eq];omega
             rw [this];rfl
            ·rw [List.getElem?_append_right (by simpa using hjl)] at hj
             have hj2:=List.mem_singleton.1 (List.mem_of_getElem? hj)
             subst hj2
             obtain ⟨k1,k2⟩:=zk false _ h8 1 z hz
             refine ⟨k1,?_⟩
             have:(z.x.Kind != 4)=true:=by simpa using k2 rfl
             rw [this,Bool.or_true]
          ·have h11:=h10 j _ (wu p.Offices p.Rules 0 j r hj)
           have hlt:=(List.getElem?_eq_some_iff.1 hj).1
           have hg:=eA (xs:=p.Rules) (z:=((0+j:Nat):Int)) (by omega)
           rw [show (((0+j:Nat):Int)).toNat=j from by omega,hj] at hg
           rw [← Option.some.inj hg] at h11
           dsimp only at h11
           exact ⟨by rw [← h11.1];simp,u9 h11.2⟩
end Go.Sg
namespace Go.Sg
set_option linter.unusedVariables false
set_option linter.unusedSimpArgs false
def GH (v:Version):Prop:=(0≤v.No∧v.No≤1048576)∧(0≤v.At∧v.At < 1099511627776)∧(0≤v.Known∧v.Known < 1099511627776)∧fo v.Policy=0
theorem Eb {L:List Version} {y:Version} {l:List Version} {i:Nat} (h:dp.L1 L dp.K1 (y::l) i=0):GH y∧(0 < i→(nthI L (((i:Nat):Int) - 1)).No < y.No)∧dp.L1 L dp.K1 l (i+1)=0:=by
 simp only [dp.L1,Bool.cond_eq_ite] at h
 split at h
 ·omega
 ·next hc=>
  simp only [Bool.or_eq_true,not_or,decide_eq_true_eq,Bool.and_eq_true,Bool.not_eq_true',Bool.not_eq_false,bne_iff_ne,ne_eq,Classical.not_not,ei] at hc
  obtain ⟨⟨⟨⟨h1,h2⟩,h3⟩,h4⟩,h5⟩:=hc
  exact ⟨⟨by omega,h3,h4,h5⟩,fun hi=>by omega,h⟩
theorem Ec (L:List Version):∀ (l pre:List Version) (x:Version),L=(pre++[x])++l→dp.L1 L dp.K1 l (pre.length+1)=0→(∀ y∈l,GH y)∧(x::l).Pairwise (fun a b=>a.No < b.No)
 | [],_,_,_,_=>⟨fun _ h=>(List.not_mem_nil h).elim,by simp⟩
 | y::l,pre,x,h,hr=>by
  have hx:nthI L (((pre.length+1:Nat):Int) - 1)=x:=by
   have hb:0≤(((pre.length+1:Nat):Int) - 1)∧(((pre.length+1:Nat):Int) - 1) < (L.length:Int):=by rw [h];simp;omega
   have hg:=eA hb
   rw [show ((((pre.length+1:Nat):Int) - 1)).toNat=pre.length from by omega,h] at hg
   rw [h];simpa using hg.symm
  obtain ⟨h1,h2,h3⟩:=Eb hr
  have h2:=h2 (by omega)
  rw [hx] at h2
  have ih:=Ec L l (pre++[x]) y (by rw [h];simp)
  rw [List.length_append,List.length_cons,List.length_nil,Nat.zero_add] at ih
  obtain ⟨i1,i2⟩:=ih h3
  refine ⟨fun z hz=>?_,List.pairwise_cons.2 ⟨fun z hz=>?_,i2⟩⟩
  ·rcases List.mem_cons.1 hz with rfl | hz
   ·exact h1
   ·exact i1 z hz
  ·rcases List.mem_cons.1 hz with rfl | hz
   ·exact h2
   ·have:=(List.pairwise_cons.1 i2).1 z hz;omega
theorem Cb {l:List Version} (hs:smV l) (h:dp l=0):bz l=0:=by
 rw [mZ]
 unfold dp at h
 rw [Bool.cond_eq_ite] at h
 split at h
 ·omega
 ·next hl=>
  simp only [decide_eq_true_eq] at hl
  have key:(∀ y∈l,GH y)∧l.Pairwise (fun a b=>a.No < b.No):=by
   cases l with
   | nil=>exact ⟨fun _ h=>(List.not_mem_nil h).elim,List.Pairwise.nil⟩
   | cons y l=>
    obtain ⟨h1,_,h3⟩:=Eb h
    obtain ⟨i1,i2⟩:=Ec (y::l) l [] y rfl h3
    refine ⟨fun z hz=>?_,i2⟩
    rcases List.mem_cons.1 hz with rfl | hz
    ·exact h1
    ·exact i1 z hz
  refine ⟨by omega,fun v hv=>?_,key.2⟩
  have:=key.1 v hv
  obtain ⟨h1,h2,h3,h4⟩:=this
  exact ⟨by omega,by omega,h1,Gx (hs.2 v hv) h4⟩
theorem every_true {r:Register} (hs:smR r) (doc:Int) (who:List Int) (t known:Int):eJ r doc who t known=true:=Gm (Cb hs.vers)
end Go.Sg
namespace Go.Sg
theorem U.{u} {α : Sort u} {a:α}:a=a:=rfl
theorem kr {p:Prop} (h:p:=by kernel_rfl):p:=h
theorem ob {p:Prop} (h:p:=by first | assumption | omega | (simp only [] ;assumption) | (simp only [decide_eq_true_eq,decide_eq_false_iff_not,Bool.and_eq_true,Bool.or_eq_true,Bool.not_eq_true',Bool.not_eq_false',Bool.and_eq_false_iff,Bool.or_eq_false_iff,beq_iff_eq,beq_eq_false_iff_ne,bne_iff_ne,bne_eq_false_iff_eq,List.length_append,List.length_cons,List.length_nil,List.length_drop] at *;omega)):p:=h
theorem lo {p:Prop} (h:p:=by simp only [List.length_append,List.length_cons,List.length_nil,List.length_take,List.length_drop];omega):p:=h
theorem ap {p:Prop} (h:p:=by first | rfl | (simp only [List.append_assoc,List.cons_append,List.nil_append,List.append_nil];done) | (simp only [List.append_assoc,List.cons_append,List.nil_append,List.append_nil];rfl) | (rw [List.append_nil] <;> rfl)):p:=h
theorem lc {p:Prop} (h:p:=by first | omega | (simp only [List.length_nil,List.length_cons] at *;omega)):p:=h
theorem rd {p:Prop} (h:p:=by repeat (first | exact trivial | refine ⟨rfl,?_⟩)):p:=h
theorem jn {h:HF} {K L:LH} (hs:K.Sublist L:=by repeat (first | exact List.Sublist.refl _ | exact List.nil_sublist _ | exact List.sublist_append_left _ _ | refine List.Sublist.cons_cons _ ?_ | refine List.Sublist.cons _ ?_)):Jst h K h L:=zK hs
theorem js {K L:LH} (hs:K.Sublist L:=by repeat (first | exact List.Sublist.refl _ | exact List.nil_sublist _ | exact List.sublist_append_left _ _ | refine List.Sublist.cons_cons _ ?_ | refine List.Sublist.cons _ ?_)):K.Sublist L:=hs
theorem cb {a b:Bool} (h:a=b):Value.bool a=Value.bool b:=congrArg Value.bool h
theorem cs {a b:Bool} (h:a=b):Value.bool b=Value.bool a:=congrArg Value.bool h.symm
theorem ci {a b:Int} (h:a=b):Value.int .i64 b=Value.int .i64 a:=congrArg (Value.int .i64) h.symm
abbrev O (l:List Value) (t:Nat):Obj:=Obj.cells l.toArray t (0,0)
abbrev Y (x:Int):Value:=.int .u8 x
abbrev Q (b:Nat):Value:=.pointer (some ⟨b,0,none⟩)
abbrev I (x:Int):Value:=.int .i64 x
theorem HF.le.t {a b c:HF} (x:a.le b) (y:b.le c):a.le c:=HF.le_trans x y
section
variable {P:Program} {b:Frame} {n:Nat} {k:List Item} {F:List Frame→(Machine→Prop)→Prop} {ds:List Deferred} {X:Cx}
theorem tf (i:Nat) {l:List Oper} {h1:HF} {K:LH} {m d:Nat} {oi:Oper} {v:Value} {dn:List Nat} {e:Env} {h:HF} {L:LH}
  (hi:nth l i=some oi) (hd:oi.dst=some d)
  (hr:∀ h' L',Jst h1 K h' L'→∀ w,St X h' L' w→(execOp e.ev oi).run P w=.ok (.value v) w)
  (t:TA P b n l.toArray k F ds X (Jst h1 K) m (i::dn) (upd e d v) h L) (hsep:sepAll l.toArray=true:=by assumption) (hJ:Jst h1 K h L:=by exact jn) (hn:(nexts l.toArray dn).contains i=true:=by kernel_rfl) (hg:guardB l.toArray e oi=true:=by rfl):TA P b n l.toArray k F ds X (Jst h1 K) (m+1) dn e h L:=
 n2 i hsep hJ hi hd hn hg hr t
theorem tm (i:Nat) {l:List Oper} {h1:HF} {K:LH} {m d:Nat} {x:Operand} {ty:TypeId} {pos:String} {af:Array Edge} {g:Option (Nat×Bool)} {dn:List Nat} {e:Env} {h:HF} {L:LH}
  (hi:nth l i=some ⟨some d,.move x,ty,pos,af,g⟩)
  (t:TA P b n l.toArray k F ds X (Jst h1 K) m (i::dn) (upd e d (e.ev x)) h L) (hsep:sepAll l.toArray=true:=by assumption) (hJ:Jst h1 K h L:=by exact jn) (hn:(nexts l.toArray dn).contains i=true:=by kernel_rfl) (hg:guardB l.toArray e ⟨some d,.move x,ty,pos,af,g⟩=true:=by rfl):TA P b n l.toArray k F ds X (Jst h1 K) (m+1) dn e h L:=
 n2 i hsep hJ hi rfl hn hg (fun _ _ _=>FF) t
theorem tk (i:Nat) {l:List Oper} {h1:HF} {K:LH} {m d:Nat} {oi:Oper} {dn:List Nat} {e:Env} {h:HF} {L:LH}
  (hi:nth l i=some oi) (hd:oi.dst=some d)
  (t:TA P b n l.toArray k F ds X (Jst h1 K) m (i::dn) (upd e d undef) h L) (hsep:sepAll l.toArray=true:=by assumption) (hJ:Jst h1 K h L:=by exact jn) (hn:(nexts l.toArray dn).contains i=true:=by kernel_rfl) (hg:guardB l.toArray e oi=false:=by rfl):TA P b n l.toArray k F ds X (Jst h1 K) (m+1) dn e h L:=
 GR i hsep hJ hi hd hn hg t
theorem tn (i:Nat) {l:List Oper} {h1:HF} {K:LH} {m:Nat} {oi:Oper} {dn:List Nat} {e:Env} {h:HF} {L:LH} (hi:nth l i=some oi)
  (t:Stp P b n l.toArray F ds X oi e h L fun e' h' L'=>Jst h1 K h' L'∧TA P b n l.toArray k F ds X (Jst h1 K) m (i::dn) e' h' L') (hn:nexts l.toArray dn=[i]:=by kernel_rfl):TA P b n l.toArray k F ds X (Jst h1 K) (m+1) dn e h L:=
 HI i hn hi t
theorem sr {id:Nat} {l:List Oper} {y:Code} {e:Env} {h:HF} {L:LH} (t:TO P b n l.toArray l (.code y::k) F e ds X h L):TT P b n (.code (.seq (.region id l.toArray false) y)::k) F e ds X h L:=ae (ai t)
theorem an {ops:Array Oper} {d:Nat} {x:Operand} {ty:TypeId} {pos:String} {af:Array Edge} {g:Option (Nat×Bool)} {e:Env} {h:HF} {L:LH} (t:TT P b n k F (upd e d (e.ev x)) ds X h L) (hd:Nat.blt d n=true:=by rfl) (hg:guardB ops e ⟨some d,.assign x,ty,pos,af,g⟩=true:=by rfl):TO P b n ops [⟨some d,.assign x,ty,pos,af,g⟩] k F e ds X h L:=ba (ac t) hd hg
theorem kq {ops:Array Oper} {l:List Oper} {d d':Nat} {op op':Op} {ty ty':TypeId} {pos pos':String} {af af':Array Edge} {g g':Option (Nat×Bool)} {e:Env} {h:HF} {L:LH} (t:TO P b n ops l k F (upd (upd e d undef) d' undef) ds X h L) (hd:Nat.blt d n=true:=by rfl) (hg:guardB ops e ⟨some d,op,ty,pos,af,g⟩=false:=by rfl)
  (hd':Nat.blt d' n=true:=by rfl) (hg':guardB ops (upd e d undef) ⟨some d',op',ty',pos',af',g'⟩=false:=by rfl):TO P b n ops (⟨some d,op,ty,pos,af,g⟩::⟨some d',op',ty',pos',af',g'⟩::l) k F e ds X h L:=bP (bP t hd' hg') hd hg
theorem tq {ops:Array Oper} {l:List Oper} {e:Env} {h:HF} {L:LH} (m:Nat) (sl:List (Nat×Value)) (t':(∀ e',mu e' sl→TO P b n ops (l.drop m) k F e' ds X h L)→TO P b n ops l k F e ds X h L) (hk:∀ e',TO P b n ops (l.drop m) k F (upds e' sl) ds X h L):TO P b n ops l k F e ds X h L:=HH m sl hk t'
theorem tu {ops:Array Oper} {h1 h2:HF} {K:LH} (hle:h1.le h2) {m:Nat} {dn:List Nat} {e:Env} {h:HF} {L:LH} (t:TA P b n ops k F ds X (Jst h2 K) m dn e h L):TA P b n ops k F ds X (Jst h1 K) m dn e h L:=uV hle (fun _ hp=>hp) t
end
theorem jl {h h2:HF} {K L:LH} (hle:h.le h2) (hs:K.Sublist L:=by repeat (first | exact List.Sublist.refl _ | exact List.nil_sublist _ | exact List.sublist_append_left _ _ | refine List.Sublist.cons_cons _ ?_ | refine List.Sublist.cons _ ?_)):Jst h K h2 L:=⟨hle,fun _ hp=>hs.subset hp⟩
theorem sw {p:Prop} (h:p:=by first | exact fun w hw=>hw | (intro w hw;simpa only [List.append_assoc,List.cons_append,List.nil_append,List.append_nil] using hw)):p:=h
end Go.Sg
namespace Go.Sg
open Go.Proofs
abbrev eL := @Tryz.underlying31
abbrev fT := @Tryz.underlying64
abbrev kl := @Tryz.underlying3
abbrev jJ := @Tryz.underlying63
abbrev kL := @Tryz.underlying62
abbrev lb := @Tryz.underlying26
abbrev la := @Tryz.underlying27
abbrev ll := @Tryz.func244
abbrev lk := @Tryz.func269
abbrev nj := @Tryz.underlying24
abbrev kM := @Tryz.underlying120
abbrev lT := @Tryz.underlying98
abbrev mK := @Tryz.underlying34
abbrev na := @Tryz.underlying22
abbrev nE := @Tryz.call265
abbrev th := @Tryz.underlying9
abbrev qD := @Tryz.call172
abbrev sj := @Tryz.underlying23
abbrev si := @Tryz.underlying25
abbrev sg := @Tryz.underlying28
abbrev sf := @Tryz.call242
abbrev tg := @Tryz.call103
abbrev te := @Tryz.underlying100
abbrev uT := @Tryz.call145
abbrev IJ := @Tryz.underlying4
abbrev Av := @Tryz.func5
abbrev vZ := @Tryz.underlying101
abbrev yG := @Tryz.underlying46
abbrev yF := @Tryz.call148
abbrev yE := @Tryz.func247
abbrev yD := @Tryz.func275
abbrev yC := @Tryz.func217
abbrev yB := @Tryz.func98
abbrev yA := @Tryz.call24
abbrev yz := @Tryz.func253
abbrev DO := @Tryz.underlying30
abbrev Au := @Tryz.call90
abbrev As := @Tryz.call169
abbrev Ar := @Tryz.call218
abbrev Aq := @Tryz.func62
abbrev Ap := @Tryz.func48
abbrev Ao := @Tryz.underlying142
abbrev An := @Tryz.func146
abbrev Am := @Tryz.func44
abbrev Al := @Tryz.underlying127
abbrev Ak := @Tryz.func14
abbrev Aj := @Tryz.call181
abbrev Ai := @Tryz.call230
abbrev Ah := @Tryz.call194
abbrev Ag := @Tryz.func18
abbrev DN := @Tryz.underlying59
abbrev DM := @Tryz.underlying68
abbrev DL := @Tryz.underlying207
abbrev DK := @Tryz.underlying212
abbrev DJ := @Tryz.call219
abbrev DI := @Tryz.func215
abbrev DH := @Tryz.func216
abbrev DG := @Tryz.func214
abbrev DF := @Tryz.func94
abbrev Fe := @Tryz.underlying215
abbrev DE := @Tryz.func84
abbrev DD := @Tryz.func45
abbrev DC := @Tryz.underlying145
abbrev DB := @Tryz.call177
abbrev DA := @Tryz.func10
abbrev Dz := @Tryz.func39
abbrev Dy := @Tryz.call10
abbrev Dx := @Tryz.func8
abbrev Dw := @Tryz.call14
abbrev Dv := @Tryz.func25
abbrev Du := @Tryz.func113
abbrev Dt := @Tryz.call187
abbrev Ds := @Tryz.func189
abbrev Dr := @Tryz.call33
abbrev Fd := @Tryz.underlying61
abbrev II := @Tryz.underlying5
abbrev Fc := @Tryz.func51
abbrev Fb := @Tryz.func100
abbrev Fa := @Tryz.func52
abbrev E9 := @Tryz.func53
abbrev E8 := @Tryz.func241
abbrev E7 := @Tryz.call176
abbrev E6 := @Tryz.func54
abbrev E5 := @Tryz.func265
abbrev E4 := @Tryz.call221
abbrev E3 := @Tryz.func159
abbrev E2 := @Tryz.func55
abbrev E1 := @Tryz.func109
abbrev E0 := @Tryz.func209
abbrev EZ := @Tryz.underlying203
abbrev EY := @Tryz.func212
abbrev EX := @Tryz.underlying159
abbrev tz_92 := @Tryz.func208
abbrev EW := @Tryz.func95
abbrev EV := @Tryz.func248
abbrev EU := @Tryz.func160
abbrev ET := @Tryz.call97
abbrev ES := @Tryz.func164
abbrev ER := @Tryz.func140
abbrev EQ := @Tryz.func150
abbrev CQ := @Tryz.func47
abbrev CP := @Tryz.func56
abbrev CO := @Tryz.func57
abbrev CN := @Tryz.func12
abbrev CM := @Tryz.func9
abbrev CL := @Tryz.func112
abbrev CK := @Tryz.func67
abbrev CJ := @Tryz.func68
abbrev CI := @Tryz.func114
abbrev CH := @Tryz.func69
abbrev CG := @Tryz.func115
abbrev CE := @Tryz.func70
abbrev CD := @Tryz.func227
abbrev CC := @Tryz.func268
abbrev CB := @Tryz.func252
abbrev CA := @Tryz.func228
abbrev Cz := @Tryz.func229
abbrev Cy := @Tryz.func231
abbrev Cw := @Tryz.func232
abbrev Cv := @Tryz.func190
abbrev Cu := @Tryz.func116
abbrev Ct := @Tryz.func71
abbrev Cs := @Tryz.func72
abbrev Cr := @Tryz.call118
abbrev Cq := @Tryz.func73
abbrev Cp := @Tryz.func31
end Go.Sg
namespace Go.Sg
open Go.Proofs
set_option maxHeartbeats 2000000
set_option maxRecDepth 100000
set_option linter.unusedVariables false
set_option linter.unusedSimpArgs false
def hOf (w:World):HF:=fun b=>w.heap[b]?
theorem pre_hOf (w:World):Pre (hOf w) [] w:=⟨fun _ _ h=>h,fun _ hp=>(List.not_mem_nil hp).elim,List.nodup_nil,fun _ hp=>(List.not_mem_nil hp).elim⟩
theorem Ee {w:World} {a:Addr} {v:Value} (h:w.cell? a=some v):a.spot=none∧∃ c T fz,w.heap[a.block]? = some (.cells c T fz)∧c[a.off]? = some v:=by
 unfold World.cell? at h
 split at h
 ·next c T fz e=>
  split at h
  ·cases h
  ·next hs=>exact ⟨by simpa using hs,c,T,fz,e,h⟩
 ·cases h
theorem Bk {α β : Type} {f:α→Option β}:∀ {l:List α} {r:List β},l.mapM f=some r→l.length=r.length∧∀ (j:Nat) (x:α),l[j]? = some x→f x=r[j]?
 | [],r,h=>by simp at h;subst h;exact ⟨rfl,fun j x hj=>by simp at hj⟩
 | a::l,r,h=>by
  rw [List.mapM_cons] at h
  simp only [Option.bind_eq_bind,Option.bind_eq_some_iff,Option.pure_def,Option.some.injEq] at h
  obtain ⟨b,hb,r',hr,rfl⟩:=h
  obtain ⟨h1,h2⟩:=Bk hr
  refine ⟨by simp [h1],fun j x hj=>?_⟩
  cases j with
  | zero=>simp at hj;subst hj;simpa using hb
  | succ j=>simpa using h2 j x (by simpa using hj)
theorem Gy {w:World} {base n:Nat} {a:Addr} {cs:List Value} (hn:0 < n) (h:w.cells? base a n=some cs):At (hOf w) a cs∧cs.length=n:=by
 unfold World.cells? at h
 split at h
 ·obtain ⟨h1,h2⟩:=Bk h
  rw [List.length_range] at h1
  have hc:∀ j v,cs[j]? = some v→w.cell? (a.add j)=some v:=fun j v hv=>by
   have hj:=(List.getElem?_eq_some_iff.1 hv).1
   rw [h2 j j (List.getElem?_range (by omega))];exact hv
  obtain ⟨v,hv⟩:∃ v,cs[0]? = some v:=⟨cs[0],List.getElem?_eq_getElem (by omega)⟩
  obtain ⟨s1,c,T,fz,s2,s3⟩:=Ee (hc 0 v hv)
  have hsp:a.spot=none:=by simpa [Addr.add] using s1
  have hbl:∀ j,(a.add j).block=a.block∧(a.add j).off=a.off+j:=fun j=>by
   unfold Addr.add
   split
   ·next e=>subst e;exact ⟨rfl,rfl⟩
   ·exact ⟨rfl,rfl⟩
  refine ⟨⟨c,T,fz,?_,hsp,fun j u hu=>?_⟩,h1.symm⟩
  ·rw [(hbl 0).1] at s2;exact s2
  ·obtain ⟨_,c',T',fz',t2,t3⟩:=Ee (hc j u hu)
   rw [(hbl j).1] at t2
   rw [(hbl 0).1,t2] at s2
   cases s2
   rw [(hbl j).2] at t3;exact t3
 ·cases h
def szL {α : Type} (f:α→Nat):List α→Nat
 | []=>0
 | x::xs=>f x+szL f xs
theorem wf {α : Type} (f:α→Nat):∀ (l r:List α),szL f (l++r)=szL f l+szL f r
 | [],r=>by simp [szL]
 | x::l,r=>by simp [szL,wf f l r,Nat.add_assoc]
theorem szL_len {α : Type} {f:α→Nat} (hf:∀ x,1≤f x):∀ (l:List α),l.length≤szL f l
 | []=>Nat.le_refl _
 | x::l=>by have:=szL_len hf l;have:=hf x;simp [szL];omega
theorem zn {α : Type} {f:α→Nat} {x:α}:∀ {l:List α},x∈l→f x≤szL f l
 | y::l,h=>by
  rcases List.mem_cons.1 h with rfl | h
  ·simp [szL]
  ·have:=zn (f:=f) h;simp [szL];omega
theorem DU:∀ (l:List Expr),szL Expr.dep l=Expr.depL l
 | []=>rfl
 | y::l=>by simp [szL,Expr.depL,DU l]
open YtngiefchigcphaaGreatDoor.Rows in
theorem bulk_one {H:Type} (d:DataW H):1≤uptoBulk d:=by
 cases d with
 | lit l=>cases l <;> simp [uptoBulk]
 | nil=>simp [uptoBulk]
 | ptr d=>simp [uptoBulk]
 | slice elems spare=>simp [uptoBulk]
 | agg parts=>simp [uptoBulk]
 | iface t d=>simp [uptoBulk]
 | map entries=>simp [uptoBulk]
 | held h=>simp [uptoBulk]
open YtngiefchigcphaaGreatDoor.Rows in
theorem Cf {H:Type} (l r:List (DataW H)):uptoBulkAll (l++r)=uptoBulkAll l+uptoBulkAll r:=by
 induction l with
 | nil=>simp [uptoBulkAll]
 | cons x l ih=>simp only [List.cons_append,uptoBulkAll,ih];omega
section opn
open YtngiefchigcphaaGreatDoor.Rows
variable {H:Type} {enc:TypeId×Value→H} {P:Program} {w:World} {base:Nat} {sp:Nat→Bool} {held:Bool}
def Opn (enc:TypeId×Value→H) (P:Program) (w:World) (base:Nat) (sp:Nat→Bool) (held:Bool) {α : Type} (T:TypeId) (R:Rp α) (sz:α→Nat) (fuel:Nat):Prop:=
 ∀ cs d ps,DataW.trod enc P w base sp held fuel T cs=some (d,ps)→∃ x,R.rep (hOf w) cs x∧sz x≤uptoBulk d
theorem opn_slice {α : Type} {R:Rp α} {sz:α→Nat} {T E:TypeId} {fuel:Nat} (ht:P.underlying T=some (.slice E)) (hc:P.cellsOf E=R.sz) (hp:0 < R.sz) (he:∀ n,fuel=n+1→Opn enc P w base sp held E R sz n) {cs:List Value} {d:DataW H} {ps:List MemPlace}
  (h:DataW.trod enc P w base sp held fuel T cs=some (d,ps)):∃ b c xs,cs=[.slice b (List.length xs) c]∧SlC R (hOf w) b c xs∧szL sz xs+1≤uptoBulk d:=by
 rcases DataW.trod_slice ht h with ⟨rfl,e⟩ | ⟨a,len,cap,elems,rest,n,hn,rfl,hx,h1,h2,h3,h4,h5,_,_⟩
 ·cases e
  exact ⟨none,0,[],rfl,SlC.nil,by simp [szL,uptoBulk]⟩
 ·cases hx
  have key:∀ k,k≤len→∃ xs:List α,xs.length=k∧(∀ i x,xs[i]? = some x→∃ cs',At (hOf w) (a.add (i * R.sz)) cs'∧cs'.length=R.sz∧R.rep (hOf w) cs' x)∧szL sz xs≤uptoBulkAll ((elems.take k).map (·.1)):=by
   intro k
   induction k with
   | zero=>exact fun _=>⟨[],rfl,fun i x hx=>by simp at hx,by simp [szL]⟩
   | succ k ih=>
    intro hk
    obtain ⟨xs,e1,e2,e3⟩:=ih (by omega)
    have hkl:k < elems.length:=by omega
    have c0:=h5 k (by omega)
    rw [List.getElem?_eq_getElem hkl] at c0
    obtain ⟨cs',c1,c2⟩:=Option.bind_eq_some_iff.1 c0
    rw [hc] at c1
    obtain ⟨x,x1,x2⟩:=he n hn _ _ _ c2
    obtain ⟨k1,k2⟩:=Gy hp c1
    refine ⟨xs++[x],by simp [e1],fun i y hy=>?_,?_⟩
    ·rcases Nat.lt_or_ge i xs.length with hi | hi
     ·rw [List.getElem?_append_left hi] at hy;exact e2 i y hy
     ·rw [List.getElem?_append_right hi] at hy
      have hi2:i=k:=by
       have:=(List.getElem?_eq_some_iff.1 hy).1
       simp at this;omega
      subst hi2
      rw [show i - xs.length=0 from by omega] at hy
      simp at hy;subst hy
      exact ⟨cs',k1,k2,x1⟩
    ·rw [wf,List.take_add_one,List.map_append,Cf,List.getElem?_eq_getElem hkl]
     simp only [szL,Option.toList_some,List.map_cons,List.map_nil,uptoBulkAll]
     have x3:sz x≤uptoBulk (elems[k]).1:=x2
     omega
  obtain ⟨xs,e1,e2,e3⟩:=key len (Nat.le_refl _)
  refine ⟨some a,cap,xs,by rw [e1],⟨⟨?_,fun i x hx=>?_⟩,by omega⟩,?_⟩
  ·have:maxLen≤9223372036854775807:=by decide
   omega
  ·obtain ⟨cs',k1,k2,k3⟩:=e2 i x hx
   exact ⟨a,cs',rfl,k1,k2,k3⟩
  ·rw [List.take_of_length_le (by omega)] at e3
   simp only [uptoBulk]
   omega
theorem opn_int {T:TypeId} (ht:P.underlying T=some (.int .i64)) (n:Nat):Opn enc P w base sp held T Rp.int (fun _=>1) n:=by
 intro cs d ps h
 refine (?_:∃ x,Rp.int.rep (hOf w) cs x).imp fun _ h=>⟨h,bulk_one d⟩
 cases n with
 | zero=>simp [DataW.trod] at h
 | succ n=>
  unfold DataW.trod at h
  rw [ht] at h
  split at h <;> simp_all
  next k k' z e=>
   obtain ⟨⟨h1,_⟩,h2,_⟩:=h
   subst h1
   exact ⟨z,by first | rfl | (subst e;rfl) | (cases e;rfl)⟩
theorem HS {T:TypeId} (ht:P.underlying T=some (.int .u8)) (n:Nat):Opn enc P w base sp held T ⟨1,fun _ cs (x:Int)=>cs=[.int .u8 x]⟩ (fun _=>1) n:=by
 intro cs d ps h
 refine (?_:∃ x:Int,cs=[.int .u8 x]).imp fun _ h=>⟨h,bulk_one d⟩
 cases n with
 | zero=>simp [DataW.trod] at h
 | succ n=>
  unfold DataW.trod at h
  rw [ht] at h
  split at h <;> simp_all
theorem oY {T:TypeId} (ht:P.underlying T=some .bool) (n:Nat):Opn enc P w base sp held T Rp.bool (fun _=>1) n:=by
 intro cs d ps h
 obtain ⟨b,rfl,_⟩:=DataW.trod_bool ht h
 exact ⟨b,rfl,bulk_one d⟩
theorem tK {T:TypeId} (ht:P.underlying T=some .string) (n:Nat):Opn enc P w base sp held T Rp.str (fun _=>1) n:=by
 intro cs d ps h
 refine (?_:∃ x,Rp.str.rep (hOf w) cs x).imp fun _ h=>⟨h,bulk_one d⟩
 cases n with
 | zero=>simp [DataW.trod] at h
 | succ n=>
  unfold DataW.trod at h
  rw [ht] at h
  split at h <;> simp_all
  all_goals exact ⟨_,rfl⟩
def TrF (enc:TypeId×Value→H) (P:Program) (w:World) (base:Nat) (sp:Nat→Bool) (held:Bool) (fuel:Nat):List TypeId→List Value→List (DataW H)→Prop
 | [],cs,ds=>cs=[]∧ds=[]
 | t::ts,cs,ds=>∃ c cs' d ds' p,cs=c++cs'∧ds=d::ds'∧DataW.trod enc P w base sp held fuel t c=some (d,p)∧TrF enc P w base sp held fuel ts cs' ds'
def contig (P:Program):List Field→Nat→Option Nat
 | [],o=>some o
 | f::fs,o=>if f.offset=o then contig P fs (o+P.cellsOf f.type) else none
theorem Fh {n:Nat} {cs:List Value}:∀ (fs:List Field) (xs:List (DataW H×List MemPlace)) (o:Nat),xs.length=fs.length→contig P fs o=some cs.length →
  (∀ (i:Nat) (f:Field),fs[i]? = some f→DataW.trod enc P w base sp held n f.type ((cs.drop f.offset).take (P.cellsOf f.type))=xs[i]?)→TrF enc P w base sp held n (fs.map (·.type)) (cs.drop o) (xs.map (·.1))
 | [],xs,o,hl,hc,_=>by
  simp only [contig,Option.some.injEq] at hc
  subst hc
  rw [List.length_nil,List.length_eq_zero_iff] at hl
  subst hl
  exact ⟨by simp,rfl⟩
 | f::fs,[],o,hl,hc,hx=>by simp at hl
 | f::fs,x::xs,o,hl,hc,hx=>by
  unfold contig at hc
  split at hc
  ·next ho=>
   have h0:=hx 0 f rfl
   rw [ho] at h0
   simp only [List.getElem?_cons_zero] at h0
   refine ⟨(cs.drop o).take (P.cellsOf f.type),cs.drop (o+P.cellsOf f.type),x.1,xs.map (·.1),x.2,?_,rfl,h0,Fh fs xs _ (by simpa using hl) hc (fun i g hg=>by simpa using hx (i+1) g (by simpa using hg))⟩
   rw [← List.drop_drop,List.take_append_drop]
  ·cases hc
theorem j4 {T:TypeId} {fs:Array Field} {fuel:Nat} {cs:List Value} {d:DataW H} {ps:List MemPlace} (ht:P.underlying T=some (.struct fs)) (hk:contig P fs.toList 0=some (P.cellsOf T)) (h:DataW.trod enc P w base sp held fuel T cs=some (d,ps)):
  ∃ n ds,fuel=n+1∧d=.agg ds∧TrF enc P w base sp held n (fs.toList.map (·.type)) cs ds:=by
 obtain ⟨xs,n,hn,hx,hl,hlen,hf⟩:=DataW.trod_struct ht h
 cases hx
 refine ⟨n,_,hn,rfl,?_⟩
 have:=Fh (enc:=enc) (w:=w) (base:=base) (sp:=sp) (held:=held) (n:=n) (cs:=cs) fs.toList xs 0 (by simpa using hlen) (by rw [hk,hl]) (fun i f hi=>hf i f (by simpa using hi))
 simpa using this
theorem Ey {T E:TypeId} {m:Nat} (ht:P.underlying T=some (.array m E)) (hE:P.underlying E=some (.int .u8)) (hc:P.cellsOf E=1) (hcT:P.cellsOf T=m) {n:Nat} {cs:List Value} {d:DataW H} {ps:List MemPlace}
  (h:DataW.trod enc P w base sp held n T cs=some (d,ps)):∃ f:Nat→Int,cs=(List.range m).map fun i=>Value.int .u8 (f i):=by
 obtain ⟨xs,k,hk,hx,hl,hlen,hf⟩:=DataW.trod_array ht h
 rw [hcT] at hl
 have h1:∀ i,∃ z:Int,i < m→cs[i]? = some (.int .u8 z):=by
  intro i
  rcases Nat.lt_or_ge i m with hi | hi
  ·have h0:=hf i hi
   rw [hc,Nat.mul_one,List.getElem?_eq_getElem (by omega)] at h0
   obtain ⟨z,hz,_⟩:=HS (enc:=enc) (w:=w) (base:=base) (sp:=sp) (held:=held) hE k _ _ _ h0
   refine ⟨z,fun _=>?_⟩
   have hz':(cs.drop i).take 1=[.int .u8 z]:=hz
   have:=congrArg (·[0]?) hz'
   simpa using this
  ·exact ⟨0,fun h=>by omega⟩
 obtain ⟨f,hf'⟩:=Classical.axiomOfChoice h1
 refine ⟨f,List.ext_getElem? fun i=>?_⟩
 rcases Nat.lt_or_ge i m with hi | hi
 ·rw [hf' i hi];simp [hi]
 ·rw [List.getElem?_eq_none (by omega)];simp [hi]
end opn
section openings
variable {H:Type} {enc:TypeId×Value→H} {w:World} {base:Nat} {sp:Nat→Bool} {held:Bool}
theorem Ba (n:Nat):Opn enc Tryz.prog w base sp held 59 Appoint.rp (fun _=>1) n:=by
 intro cs d ps h
 obtain ⟨m,ds,rfl,rfl,c0,_,d0,_,p0,rfl,rfl,h0,c1,_,d1,_,p1,rfl,rfl,h1,c2,_,d2,_,p2,rfl,rfl,h2,c3,_,d3,_,p3,rfl,rfl,h3,c4,_,d4,_,p4,rfl,rfl,h4,c5,_,d5,_,p5,rfl,rfl,h5,c6,_,d6,_,p6,rfl,rfl,h6,rfl,rfl⟩:=j4 (fs:=_) DN (by kernel_rfl) h
 obtain ⟨x0,rfl,_⟩:=(opn_int (by kernel_rfl)) m _ _ _ h0
 obtain ⟨x1,rfl,_⟩:=(opn_int (by kernel_rfl)) m _ _ _ h1
 obtain ⟨x2,rfl,_⟩:=(opn_int (by kernel_rfl)) m _ _ _ h2
 obtain ⟨x3,rfl,_⟩:=(opn_int (by kernel_rfl)) m _ _ _ h3
 obtain ⟨x4,rfl,_⟩:=(opn_int (by kernel_rfl)) m _ _ _ h4
 obtain ⟨x5,rfl,_⟩:=(opn_int (by kernel_rfl)) m _ _ _ h5
 obtain ⟨x6,rfl,_⟩:=(oY (by kernel_rfl)) m _ _ _ h6
 exact ⟨⟨x0,x1,x2,x3,x4,x5,x6⟩,rfl,bulk_one _⟩
theorem C4 (n:Nat):Opn enc Tryz.prog w base sp held 169 Deputy.rp (fun _=>1) n:=by
 intro cs d ps h
 obtain ⟨m,ds,rfl,rfl,c0,_,d0,_,p0,rfl,rfl,h0,c1,_,d1,_,p1,rfl,rfl,h1,c2,_,d2,_,p2,rfl,rfl,h2,c3,_,d3,_,p3,rfl,rfl,h3,c4,_,d4,_,p4,rfl,rfl,h4,c5,_,d5,_,p5,rfl,rfl,h5,c6,_,d6,_,p6,rfl,rfl,h6,c7,_,d7,_,p7,rfl,rfl,h7,c8,_,d8,_,p8,rfl,rfl,h8,c9,_,d9,_,p9,rfl,rfl,h9,rfl,rfl⟩:=j4 (fs:=_) Tryz.underlying169 (by kernel_rfl) h
 obtain ⟨x0,rfl,_⟩:=(opn_int (by kernel_rfl)) m _ _ _ h0
 obtain ⟨x1,rfl,_⟩:=(opn_int (by kernel_rfl)) m _ _ _ h1
 obtain ⟨x2,rfl,_⟩:=(opn_int (by kernel_rfl)) m _ _ _ h2
 obtain ⟨x3,rfl,_⟩:=(opn_int (by kernel_rfl)) m _ _ _ h3
 obtain ⟨x4,rfl,_⟩:=(opn_int (by kernel_rfl)) m _ _ _ h4
 obtain ⟨x5,rfl,_⟩:=(opn_int (by kernel_rfl)) m _ _ _ h5
 obtain ⟨x6,rfl,_⟩:=(opn_int (by kernel_rfl)) m _ _ _ h6
 obtain ⟨x7,rfl,_⟩:=(opn_int (by kernel_rfl)) m _ _ _ h7
 obtain ⟨x8,rfl,_⟩:=(opn_int (by kernel_rfl)) m _ _ _ h8
 obtain ⟨x9,rfl,_⟩:=(oY (by kernel_rfl)) m _ _ _ h9
 exact ⟨⟨x0,x1,x2,x3,x4,x5,x6,x7,x8,x9⟩,rfl,bulk_one _⟩
theorem zE (n:Nat):Opn enc Tryz.prog w base sp held 61 Interest.rp (fun _=>1) n:=by
 intro cs d ps h
 obtain ⟨m,ds,rfl,rfl,c0,_,d0,_,p0,rfl,rfl,h0,c1,_,d1,_,p1,rfl,rfl,h1,c2,_,d2,_,p2,rfl,rfl,h2,c3,_,d3,_,p3,rfl,rfl,h3,c4,_,d4,_,p4,rfl,rfl,h4,c5,_,d5,_,p5,rfl,rfl,h5,c6,_,d6,_,p6,rfl,rfl,h6,rfl,rfl⟩:=j4 (fs:=_) Fd (by kernel_rfl) h
 obtain ⟨x0,rfl,_⟩:=(opn_int (by kernel_rfl)) m _ _ _ h0
 obtain ⟨x1,rfl,_⟩:=(opn_int (by kernel_rfl)) m _ _ _ h1
 obtain ⟨x2,rfl,_⟩:=(opn_int (by kernel_rfl)) m _ _ _ h2
 obtain ⟨x3,rfl,_⟩:=(opn_int (by kernel_rfl)) m _ _ _ h3
 obtain ⟨x4,rfl,_⟩:=(opn_int (by kernel_rfl)) m _ _ _ h4
 obtain ⟨x5,rfl,_⟩:=(oY (by kernel_rfl)) m _ _ _ h5
 obtain ⟨x6,rfl,_⟩:=(oY (by kernel_rfl)) m _ _ _ h6
 exact ⟨⟨x0,x1,x2,x3,x4,x5,x6⟩,rfl,bulk_one _⟩
theorem C5 (n:Nat):Opn enc Tryz.prog w base sp held 173 Budget.rp (fun _=>1) n:=by
 intro cs d ps h
 obtain ⟨m,ds,rfl,rfl,c0,_,d0,_,p0,rfl,rfl,h0,c1,_,d1,_,p1,rfl,rfl,h1,c2,_,d2,_,p2,rfl,rfl,h2,c3,_,d3,_,p3,rfl,rfl,h3,c4,_,d4,_,p4,rfl,rfl,h4,c5,_,d5,_,p5,rfl,rfl,h5,c6,_,d6,_,p6,rfl,rfl,h6,c7,_,d7,_,p7,rfl,rfl,h7,rfl,rfl⟩:=j4 (fs:=_) Tryz.underlying173 (by kernel_rfl) h
 obtain ⟨x0,rfl,_⟩:=(opn_int (by kernel_rfl)) m _ _ _ h0
 obtain ⟨x1,rfl,_⟩:=(opn_int (by kernel_rfl)) m _ _ _ h1
 obtain ⟨x2,rfl,_⟩:=(opn_int (by kernel_rfl)) m _ _ _ h2
 obtain ⟨x3,rfl,_⟩:=(opn_int (by kernel_rfl)) m _ _ _ h3
 obtain ⟨x4,rfl,_⟩:=(opn_int (by kernel_rfl)) m _ _ _ h4
 obtain ⟨x5,rfl,_⟩:=(opn_int (by kernel_rfl)) m _ _ _ h5
 obtain ⟨x6,rfl,_⟩:=(opn_int (by kernel_rfl)) m _ _ _ h6
 obtain ⟨x7,rfl,_⟩:=(oY (by kernel_rfl)) m _ _ _ h7
 exact ⟨⟨x0,x1,x2,x3,x4,x5,x6,x7⟩,rfl,bulk_one _⟩
abbrev Expr.hold (x:Expr):Nat:=x.dep
theorem AZ (n:Nat):Opn enc Tryz.prog w base sp held 66 Expr.rp Expr.hold n:=by
 induction n using Nat.strongRecOn with
 | _ n ih=>
 intro cs d ps h
 obtain ⟨m,ds,rfl,rfl,c0,_,d0,_,p0,rfl,rfl,h0,c1,_,d1,_,p1,rfl,rfl,h1,c2,_,d2,_,p2,rfl,rfl,h2,c3,_,d3,_,p3,rfl,rfl,h3,c4,_,d4,_,p4,rfl,rfl,h4,rfl,rfl⟩:=j4 (fs:=_) Tryz.underlying66 (by kernel_rfl) h
 obtain ⟨x0,rfl,_⟩:=(opn_int (by kernel_rfl)) m _ _ _ h0
 obtain ⟨x1,rfl,_⟩:=(opn_int (by kernel_rfl)) m _ _ _ h1
 obtain ⟨x2,rfl,_⟩:=(opn_int (by kernel_rfl)) m _ _ _ h2
 obtain ⟨x3,rfl,_⟩:=(tK (by kernel_rfl)) m _ _ _ h3
 obtain ⟨b4,k4,x4,rfl,o4,q4⟩:=opn_slice fT (by kernel_rfl) (by decide) (fun k hk=>ih k (by omega)) h4
 refine ⟨Expr.mk x0 x1 x2 x3 x4,⟨⟨b4,k4⟩,rfl,Expr.ok.of o4⟩,?_⟩
 rw [DU] at q4
 simp only [Expr.hold,Expr.dep,YtngiefchigcphaaGreatDoor.Rows.uptoBulk,YtngiefchigcphaaGreatDoor.Rows.uptoBulkAll] at *
 omega
def Rule.hold (x:Rule):Nat:=Expr.hold x.Expr+1
theorem FN (n:Nat):Opn enc Tryz.prog w base sp held 107 Rule.rp Rule.hold n:=by
 intro cs d ps h
 obtain ⟨m,ds,rfl,rfl,c0,_,d0,_,p0,rfl,rfl,h0,c1,_,d1,_,p1,rfl,rfl,h1,c2,_,d2,_,p2,rfl,rfl,h2,c3,_,d3,_,p3,rfl,rfl,h3,rfl,rfl⟩:=j4 (fs:=_) Tryz.underlying107 (by kernel_rfl) h
 obtain ⟨x0,rfl,_⟩:=(tK (by kernel_rfl)) m _ _ _ h0
 obtain ⟨x1,rfl,_⟩:=(opn_int (by kernel_rfl)) m _ _ _ h1
 obtain ⟨x2,rfl,_⟩:=(opn_int (by kernel_rfl)) m _ _ _ h2
 obtain ⟨x3,⟨r3,rfl,o3⟩,q3⟩:=AZ m _ _ _ h3
 refine ⟨⟨x0,x1,x2,x3⟩,⟨⟨r3⟩,rfl,⟨o3⟩⟩,?_⟩
 simp only [Rule.hold,YtngiefchigcphaaGreatDoor.Rows.uptoBulk,YtngiefchigcphaaGreatDoor.Rows.uptoBulkAll]
 omega
def Policy.hold (x:Policy):Nat:=szL (fun _=>1) x.Kinds+szL (fun _=>1) x.Offices+szL Rule.hold x.Rules+Expr.hold x.Change+1
theorem C3 (n:Nat):Opn enc Tryz.prog w base sp held 68 Policy.rp Policy.hold n:=by
 intro cs d ps h
 obtain ⟨m,ds,rfl,rfl,c0,_,d0,_,p0,rfl,rfl,h0,c1,_,d1,_,p1,rfl,rfl,h1,c2,_,d2,_,p2,rfl,rfl,h2,c3,_,d3,_,p3,rfl,rfl,h3,c4,_,d4,_,p4,rfl,rfl,h4,c5,_,d5,_,p5,rfl,rfl,h5,rfl,rfl⟩:=j4 (fs:=_) DM (by kernel_rfl) h
 obtain ⟨x0,rfl,_⟩:=(tK (by kernel_rfl)) m _ _ _ h0
 obtain ⟨b1,k1,x1,rfl,o1,q1⟩:=opn_slice kL (by kernel_rfl) (by decide) (fun k _=>(tK (by kernel_rfl)) k) h1
 obtain ⟨b2,k2,x2,rfl,o2,q2⟩:=opn_slice kL (by kernel_rfl) (by decide) (fun k _=>(tK (by kernel_rfl)) k) h2
 obtain ⟨b3,k3,x3,rfl,o3,q3⟩:=opn_slice jJ (by kernel_rfl) (by decide) (fun k _=>FN k) h3
 obtain ⟨x4,⟨r4,rfl,o4⟩,q4⟩:=AZ m _ _ _ h4
 obtain ⟨x5,rfl,_⟩:=(opn_int (by kernel_rfl)) m _ _ _ h5
 refine ⟨⟨x0,x1,x2,x3,x4,x5⟩,⟨⟨b1,k1,b2,k2,b3,k3,r4⟩,rfl,⟨o1,o2,o3,o4⟩⟩,?_⟩
 simp only [Policy.hold,YtngiefchigcphaaGreatDoor.Rows.uptoBulk,YtngiefchigcphaaGreatDoor.Rows.uptoBulkAll]
 omega
def Version.hold (x:Version):Nat:=Policy.hold x.Policy+1
theorem AY (n:Nat):Opn enc Tryz.prog w base sp held 70 Version.rp Version.hold n:=by
 intro cs d ps h
 obtain ⟨m,ds,rfl,rfl,c0,_,d0,_,p0,rfl,rfl,h0,c1,_,d1,_,p1,rfl,rfl,h1,c2,_,d2,_,p2,rfl,rfl,h2,c3,_,d3,_,p3,rfl,rfl,h3,rfl,rfl⟩:=j4 (fs:=_) Tryz.underlying70 (by kernel_rfl) h
 obtain ⟨x0,rfl,_⟩:=(opn_int (by kernel_rfl)) m _ _ _ h0
 obtain ⟨x1,rfl,_⟩:=(opn_int (by kernel_rfl)) m _ _ _ h1
 obtain ⟨x2,rfl,_⟩:=(opn_int (by kernel_rfl)) m _ _ _ h2
 obtain ⟨x3,⟨r3,rfl,o3⟩,q3⟩:=C3 m _ _ _ h3
 refine ⟨⟨x0,x1,x2,x3⟩,⟨⟨r3⟩,rfl,⟨o3⟩⟩,?_⟩
 simp only [Version.hold,YtngiefchigcphaaGreatDoor.Rows.uptoBulk,YtngiefchigcphaaGreatDoor.Rows.uptoBulkAll]
 omega
def Document.hold (x:Document):Nat:=szL (fun _=>1) x.Parties+szL (fun _=>1) x.Revokes+szL (fun _=>1) x.Needs+1
theorem zF (n:Nat):Opn enc Tryz.prog w base sp held 52 Document.rp Document.hold n:=by
 intro cs d ps h
 obtain ⟨m,ds,rfl,rfl,c0,_,d0,_,p0,rfl,rfl,h0,c1,_,d1,_,p1,rfl,rfl,h1,c2,_,d2,_,p2,rfl,rfl,h2,c3,_,d3,_,p3,rfl,rfl,h3,c4,_,d4,_,p4,rfl,rfl,h4,c5,_,d5,_,p5,rfl,rfl,h5,c6,_,d6,_,p6,rfl,rfl,h6,c7,_,d7,_,p7,rfl,rfl,h7,c8,_,d8,_,p8,rfl,rfl,h8,c9,_,d9,_,p9,rfl,rfl,h9,rfl,rfl⟩:=j4 (fs:=_) Tryz.underlying52 (by kernel_rfl) h
 obtain ⟨x0,rfl,_⟩:=(opn_int (by kernel_rfl)) m _ _ _ h0
 obtain ⟨x1,rfl,_⟩:=(opn_int (by kernel_rfl)) m _ _ _ h1
 obtain ⟨x2,rfl,_⟩:=(opn_int (by kernel_rfl)) m _ _ _ h2
 obtain ⟨x3,rfl,_⟩:=(opn_int (by kernel_rfl)) m _ _ _ h3
 obtain ⟨x4,rfl,_⟩:=(opn_int (by kernel_rfl)) m _ _ _ h4
 obtain ⟨x5,rfl,_⟩:=(opn_int (by kernel_rfl)) m _ _ _ h5
 obtain ⟨b6,k6,x6,rfl,o6,q6⟩:=opn_slice eL (by kernel_rfl) (by decide) (fun k _=>(opn_int (by kernel_rfl)) k) h6
 obtain ⟨b7,k7,x7,rfl,o7,q7⟩:=opn_slice eL (by kernel_rfl) (by decide) (fun k _=>(opn_int (by kernel_rfl)) k) h7
 obtain ⟨b8,k8,x8,rfl,o8,q8⟩:=opn_slice eL (by kernel_rfl) (by decide) (fun k _=>(opn_int (by kernel_rfl)) k) h8
 obtain ⟨x9,rfl⟩:=Ey Tryz.underlying50 II (by kernel_rfl) (by kernel_rfl) h9
 refine ⟨⟨x0,x1,x2,x3,x4,x5,x6,x7,x8,x9⟩,⟨⟨b6,k6,b7,k7,b8,k8⟩,rfl,⟨o6,o7,o8⟩⟩,?_⟩
 simp only [Document.hold,YtngiefchigcphaaGreatDoor.Rows.uptoBulk,YtngiefchigcphaaGreatDoor.Rows.uptoBulkAll]
 omega
theorem zG (n:Nat):Opn enc Tryz.prog w base sp held 181 Approval.rp (fun _=>1) n:=by
 intro cs d ps h
 obtain ⟨m,ds,rfl,rfl,c0,_,d0,_,p0,rfl,rfl,h0,c1,_,d1,_,p1,rfl,rfl,h1,c2,_,d2,_,p2,rfl,rfl,h2,c3,_,d3,_,p3,rfl,rfl,h3,c4,_,d4,_,p4,rfl,rfl,h4,c5,_,d5,_,p5,rfl,rfl,h5,c6,_,d6,_,p6,rfl,rfl,h6,c7,_,d7,_,p7,rfl,rfl,h7,rfl,rfl⟩:=j4 (fs:=_) Tryz.underlying181 (by kernel_rfl) h
 obtain ⟨x0,rfl,_⟩:=(opn_int (by kernel_rfl)) m _ _ _ h0
 obtain ⟨x1,rfl,_⟩:=(opn_int (by kernel_rfl)) m _ _ _ h1
 obtain ⟨x2,rfl,_⟩:=(opn_int (by kernel_rfl)) m _ _ _ h2
 obtain ⟨x3,rfl,_⟩:=(opn_int (by kernel_rfl)) m _ _ _ h3
 obtain ⟨x4,rfl,_⟩:=(opn_int (by kernel_rfl)) m _ _ _ h4
 obtain ⟨x5,rfl,_⟩:=(opn_int (by kernel_rfl)) m _ _ _ h5
 obtain ⟨x6,rfl,_⟩:=(opn_int (by kernel_rfl)) m _ _ _ h6
 obtain ⟨x7,rfl,_⟩:=(oY (by kernel_rfl)) m _ _ _ h7
 exact ⟨⟨x0,x1,x2,x3,x4,x5,x6,x7⟩,rfl,bulk_one _⟩
def Register.hold (x:Register):Nat:=szL (fun _=>1) x.Appoints+szL (fun _=>1) x.Deputies+szL (fun _=>1) x.Interests+szL (fun _=>1) x.Budgets+szL Version.hold x.Versions+szL Document.hold x.Docs+szL (fun _=>1) x.Approvals+1
theorem opn_Register (n:Nat):Opn enc Tryz.prog w base sp held 30 Register.rp Register.hold n:=by
 intro cs d ps h
 obtain ⟨m,ds,rfl,rfl,c0,_,d0,_,p0,rfl,rfl,h0,c1,_,d1,_,p1,rfl,rfl,h1,c2,_,d2,_,p2,rfl,rfl,h2,c3,_,d3,_,p3,rfl,rfl,h3,c4,_,d4,_,p4,rfl,rfl,h4,c5,_,d5,_,p5,rfl,rfl,h5,c6,_,d6,_,p6,rfl,rfl,h6,rfl,rfl⟩:=j4 (fs:=_) DO (by kernel_rfl) h
 obtain ⟨b0,k0,x0,rfl,o0,q0⟩:=opn_slice na (by kernel_rfl) (by decide) (fun k _=>Ba k) h0
 obtain ⟨b1,k1,x1,rfl,o1,q1⟩:=opn_slice sj (by kernel_rfl) (by decide) (fun k _=>C4 k) h1
 obtain ⟨b2,k2,x2,rfl,o2,q2⟩:=opn_slice nj (by kernel_rfl) (by decide) (fun k _=>zE k) h2
 obtain ⟨b3,k3,x3,rfl,o3,q3⟩:=opn_slice si (by kernel_rfl) (by decide) (fun k _=>C5 k) h3
 obtain ⟨b4,k4,x4,rfl,o4,q4⟩:=opn_slice lb (by kernel_rfl) (by decide) (fun k _=>AY k) h4
 obtain ⟨b5,k5,x5,rfl,o5,q5⟩:=opn_slice la (by kernel_rfl) (by decide) (fun k _=>zF k) h5
 obtain ⟨b6,k6,x6,rfl,o6,q6⟩:=opn_slice sg (by kernel_rfl) (by decide) (fun k _=>zG k) h6
 refine ⟨⟨x0,x1,x2,x3,x4,x5,x6⟩,⟨⟨b0,k0,b1,k1,b2,k2,b3,k3,b4,k4,b5,k5,b6,k6⟩,rfl,⟨o0,o1,o2,o3,o4,o5,o6⟩⟩,?_⟩
 simp only [Register.hold,YtngiefchigcphaaGreatDoor.Rows.uptoBulk,YtngiefchigcphaaGreatDoor.Rows.uptoBulkAll]
 omega
end openings
theorem HL {p:Policy} (h:Policy.hold p≤1048576):smP p:=by
 unfold Policy.hold Expr.hold at h
 have h1:=szL_len (f:=fun _:ByteArray=>1) (fun _=>Nat.le_refl _) p.Kinds
 have h2:=szL_len (f:=fun _:ByteArray=>1) (fun _=>Nat.le_refl _) p.Offices
 have h3:=szL_len (f:=Rule.hold) (fun x=>by unfold Rule.hold;omega) p.Rules
 refine ⟨by omega,fun r hr=>?_,by omega,by omega,by omega⟩
 have h4:=zn (f:=Rule.hold) hr
 unfold Rule.hold Expr.hold at h4
 have:szL (fun x=>Rule.hold x) p.Rules=szL Rule.hold p.Rules:=rfl
 unfold Rule.hold Expr.hold at this h
 omega
theorem HK {l:List Version} (h:szL Version.hold l≤1048576):smV l:=by
 have h1:=szL_len (f:=Version.hold) (fun x=>by unfold Version.hold;omega) l
 refine ⟨by omega,fun v hv=>HL ?_⟩
 have h2:=zn (f:=Version.hold) hv
 have h3:Policy.hold v.Policy≤Version.hold v:=by unfold Version.hold;omega
 omega
theorem smR_of {r:Register} (h:Register.hold r≤1048576):smR r:=by
 unfold Register.hold at h
 have h1:=szL_len (f:=fun _:Appoint=>1) (fun _=>Nat.le_refl _) r.Appoints
 have h2:=szL_len (f:=fun _:Deputy=>1) (fun _=>Nat.le_refl _) r.Deputies
 have h3:=szL_len (f:=fun _:Interest=>1) (fun _=>Nat.le_refl _) r.Interests
 have h4:=szL_len (f:=fun _:Budget=>1) (fun _=>Nat.le_refl _) r.Budgets
 have h5:=szL_len (f:=Document.hold) (fun x=>by unfold Document.hold;omega) r.Docs
 have h6:=szL_len (f:=fun _:Approval=>1) (fun _=>Nat.le_refl _) r.Approvals
 exact ⟨HK (by omega),by omega,by omega,by omega,by omega,by omega,by omega⟩
end Go.Sg
namespace Go.Sg
def Iv (P:Program) (f:FuncId) (X:Cx) (v:Value) (cs:List Frame) (Φ : Machine→Prop):Prop:=
 X.M=[]∧∀ fr w',RowKit.Below X.w0.heap.size X.w0 w'→fr.fn=f→fr.leaving P w' (.returned v)→To P Φ (lone fr cs w')
theorem Cd {P:Program} {f:FuncId} {fn:Func} {c:Code} {n:Nat} {args:List Value} {h:HF} {v:Value} {w:World} (hp:Pre h [] w)
  (hf:P.funcs[f]? = some fn) (hb:fn.body=some c) (hn:fn.ntmps=n) (hle:Nat.ble args.length n=true)
  (t:∀ X:Cx,X.M=([]:LH).map (·.1)→X.h0=h→TT P (bodyFrame f) n [.code c] (Iv P f X v) (envArgs args) [] X h []):Calls P f args.toArray w fun e w'=>e=.returned v∧RowKit.Below w.heap.size w w':=by
 intro cs
 have hle:=Nat.le_of_ble_eq_true hle
 have henter:Frame.enter P f args.toArray .normal=(bodyFrame f).atR { tmps:=args.toArray++Array.replicate (n - args.length) undef,defers:=[] } [.code c]:=by
  simp [Frame.enter,Frame.atR,hf,hb,hn,bodyFrame]
 obtain ⟨m',s,w',fr,rfl,h1,h2,h3⟩:=t ⟨w,h,[]⟩ rfl rfl w (St.start hp) { tmps:=args.toArray++Array.replicate (n - args.length) undef,defers:=[] } cs
  (fun m=>∃ w' fr,m=lone fr cs w'∧RowKit.Below w.heap.size w w'∧fr.fn=f∧fr.leaving P w' (.returned v)) (by simp;omega) (nV _ _) rfl
  ⟨rfl,fun fr w' hb hfn hl=>.now ⟨w',fr,rfl,hb,hfn,hl⟩⟩
 refine ⟨.returned v,w',fr,⟨rfl,h1⟩,?_,h2,h3⟩
 rw [henter];exact s
section ending
variable {P:Program} {f:FuncId} {n:Nat} {k:List Item} {e:Env} {X:Cx} {h:HF} {L:LH} {fn:Func}
theorem qF {rs:List ResultVar} {v:Value} {hh:HF} (vs:List Value) (hf:P.funcs[f]? = some fn) (hr:fn.results=rs.toArray) (_:X.h0=hh) (hv:sC P e L rs vs) (hvv:retVal vs=v):
  TT P (bodyFrame f) n (.code .ret::k) (Iv P f X v) e [] X h L:=by
 intro w hw a cs Φ hn he hds hF
 exact .step (stepR_ret rfl) (hF.2 _ w (hw.below hF.1) rfl ⟨rfl,hds,rfl,fn,hf,hvv ▸ pG hr hv a he w hw⟩)
end ending
end Go.Sg
namespace Go.Sg
open Go.Proofs
set_option maxRecDepth 100000
theorem ED {P:Program} {w:World} {sp:Nat→Bool} {m:Nat} {E:TypeId} {ps rs:Array TypeId} {vd:Bool} {c:List Value} {b:UInt8} {r:List UInt8} {p:List MemPlace} (hE:P.underlying E=some (.func ps rs vd))
  (h:DataW.trod (funcToken P) P w 0 sp true m E c=some (.held (b::r),p)):∃ f fn,c=[.func (.func f) #[] #[]]∧P.funcs[f]? = some fn∧P.funcNamed fn.name=some f∧fn.name.toUTF8.data.toList=b::r:=by
 cases m with
 | zero=>simp [DataW.trod] at h
 | succ m=>
  unfold DataW.trod at h
  rw [hE] at h
  split at h <;> try (simp_all;done)
  next fn fi ca _ _=>
   simp only [if_true,Option.some.injEq,Prod.mk.injEq,DataW.held.injEq] at h
   obtain ⟨f,g,e,h1,h2,h3⟩:=funcToken_tells h.1
   exact ⟨f,g,by rw [e],h1,h2,h3⟩
theorem Hj {P:Program} {k:FuncId} {g:Func} {f:FuncId} {fn:Func} {l:List UInt8} (hg:P.funcNamed g.name=some k) (hl:g.name.toUTF8.data.toList=l) (h2:P.funcNamed fn.name=some f) (h3:fn.name.toUTF8.data.toList=l):f=k:=by
 have:fn.name=g.name:=bytes_inj (h3.trans hl.symm)
 rw [this,hg] at h2
 exact (Option.some.inj h2).symm
theorem Fl {α : Type} {l:List α} {i:Nat} {x:α} (h:(l.drop i).take 1=[x]):l[i]? = some x:=by
 have:=congrArg (·[0]?) h
 simpa using this
theorem kinds_of {W:World} (hL:laidMetH Tryz.prog YtngiefchigcphaaGreatDoor.Rows.asofEveryUptoRow.laid W):Kinds (hOf W):=by
 obtain ⟨d, hd⟩ : ∃ d, (YtngiefchigcphaaGreatDoor.Rows.laid_signatory_policies_kinds : DataW Unit) = .iface "func table" d := ⟨_, rfl⟩
 obtain ⟨g,t,cs,fuel,p,hg,ht,hv,hr⟩:=hL.funcs (d:=d) (by rw [← hd];exact List.mem_cons_self ..)
 unfold World.var? at hv
 rw [hg] at hv
 obtain rfl:g=0:=Option.some.inj (hg.symm.trans (by kernel_rfl))
 obtain rfl:t=284:=Option.some.inj (ht.symm.trans (by kernel_rfl))
 obtain ⟨xs,m,_,hx,hl,hlen,hf⟩:=DataW.trod_array (n:=5) (e:=165) (by kernel_rfl) hr
 rw [show Tryz.prog.cellsOf 284=5 by kernel_rfl] at hl
 rw [show Tryz.prog.cellsOf 165=1 by kernel_rfl] at hf
 unfold YtngiefchigcphaaGreatDoor.Rows.laid_signatory_policies_kinds at hd
 cases hd
 simp only [DataW.funcsOut,DataW.funcsOutAll,Prod.mk.injEq] at hx
 match xs,hlen with
 | [x0,x1,x2,x3,x4],_=>
  simp only [List.map_cons,List.map_nil,beq_self_eq_true,if_true,DataW.agg.injEq,List.cons.injEq,and_true] at hx
  have key:∀ (i:Nat) (x:DataW (List UInt8)×List MemPlace) (b:UInt8) (r:List UInt8) (k:FuncId) (fk:Func),i < 5→[x0,x1,x2,x3,x4][i]? = some x→DataW.held (b::r)=x.1→Tryz.prog.funcNamed fk.name=some k→fk.name.toUTF8.data.toList=b::r→cs.toList[i]? = some (.func (.func k) #[] #[]):=by
   intro i x b r k fk hi hxi hb hk hn
   have h0:=hf i hi
   rw [hxi,Nat.mul_one] at h0
   obtain ⟨f,fn,e,_,h2,h3⟩:=ED (P:=Tryz.prog) (E:=165) Tryz.underlying165 (h0.trans (show some x=some (DataW.held (b::r),x.2) by rw [hb]))
   obtain rfl:=Hj hk hn h2 h3
   exact Fl e
  obtain ⟨⟨e0,e1,e2,e3,e4⟩,_⟩:=hx
  have k0:=key 0 x0 _ _ 299 Tryz.f299 (by omega) rfl e0 (by kernel_rfl) (by kernel_rfl)
  have k1:=key 1 x1 _ _ 300 Tryz.f300 (by omega) rfl e1 (by kernel_rfl) (by kernel_rfl)
  have k2:=key 2 x2 _ _ 301 Tryz.f301 (by omega) rfl e2 (by kernel_rfl) (by kernel_rfl)
  have k3:=key 3 x3 _ _ 302 Tryz.f302 (by omega) rfl e3 (by kernel_rfl) (by kernel_rfl)
  have k4:=key 4 x4 _ _ 303 Tryz.f303 (by omega) rfl e4 (by kernel_rfl) (by kernel_rfl)
  have hcs:cs=kindsC.toArray:=by
   apply Array.toList_inj.1
   apply List.ext_getElem?
   intro i
   match i with
   | 0=>exact k0
   | 1=>exact k1
   | 2=>exact k2
   | 3=>exact k3
   | 4=>exact k4
   | i+5=>rw [List.getElem?_eq_none (by omega)];rfl
  simp only [Option.bind_some] at hv
  split at hv
  ·next c T fz e=>
   cases hv
   exact ⟨T,fz,by rw [← hcs];exact e⟩
  ·cases hv
end Go.Sg
