import Derived.KernelRfl
import Derived.Test.YtngiefchigcphaaGreatDoorProg
import Derived.Test.YtngiefchigcphaaGreatDoorW1
import Derived.Test.YtngiefchigcphaaGreatDoorW2
import Derived.Test.YtngiefchigcphaaGreatDoorW3
import Derived.Test.YtngiefchigcphaaGreatDoorW4
/- A part of the proof of the law AsofMore: where what it reads holds at most 1048576 values and letters, the call returns true and its arguments read as they did. Conditions: that bound, and that the listed table starts as the program lays it. -/
set_option linter.unusedVariables false
set_option linter.unusedSimpArgs false
namespace Go.Sg
set_option linter.unusedVariables false
set_option linter.unusedSimpArgs false
theorem yD (r:Register) (doc:Int) (who:List Int) (known:Int):∀ (ps acc:List Span),
  aW.L1 r doc who known aW.K1 ps acc=(ps.foldl (stepT (bn (cT r doc known).1 who)) acc,0)
 | [],acc=>rfl
 | p::ps,acc=>by
  simp only [aW.L1,List.foldl_cons,yD r doc who known ps]
  unfold stepT
  cases bn (cT r doc known).1 who p.From
  ·rfl
  ·simp only [Bool.not_true,cond_false]
   cases (decide (0 < ((acc.length:Nat):Int))&&((nthI acc (((acc.length:Nat):Int) - 1)).Until==p.From)) <;> rfl
theorem sc {α : Type} (g:α→Int):∀ (l:List α) (m:List (Int×Bool)) (x:Int),x∈(l.foldl (fun m y=>mput m (g y) true) m).map (·.1)↔x∈m.map (·.1)∨∃ y∈l,x=g y
 | [],m,x=>by simp
 | y::l,m,x=>by
  rw [List.foldl_cons,sc g l,mN]
  simp only [List.mem_cons,exists_eq_or_imp]
  constructor
  ·rintro ((h | h) | h)
   ·exact .inr (.inl h)
   ·exact .inl h
   ·exact .inr (.inr h)
  ·rintro (h | h | h)
   ·exact .inl (.inr h)
   ·exact .inl (.inl h)
   ·exact .inr h
theorem qm {α : Type} (g:α→Int):∀ (l:List α) (m:List (Int×Bool)),(m.map (·.1)).Nodup→((l.foldl (fun m y=>mput m (g y) true) m).map (·.1)).Nodup
 | [],m,h=>h
 | y::l,m,h=>qm g l _ (iz _ _ h)
theorem uz (q:aS):∀ (l:List Version) (m:List (Int×Bool)) (x:Int),x∈(changeV q l m).map (·.1)↔x∈m.map (·.1)∨∃ v∈l,x=v.At∨∃ y∈v.Policy.Rules,x=q.doc.At+y.Think
 | [],m,x=>by simp [changeV]
 | v::l,m,x=>by
  show x∈(changeV q l (changeR q v.Policy.Rules (mput m v.At true))).map (·.1)↔_
  rw [uz q l]
  unfold changeR
  rw [sc,mN]
  simp only [List.mem_cons,exists_eq_or_imp]
  constructor
  ·rintro (((h | h) | h) | h)
   ·exact .inr (.inl (.inl h))
   ·exact .inl h
   ·exact .inr (.inl (.inr h))
   ·exact .inr (.inr h)
  ·rintro (h | (h | h) | h)
   ·exact .inl (.inl (.inr h))
   ·exact .inl (.inl (.inl h))
   ·exact .inl (.inr h)
   ·exact .inr h
theorem sT (q:aS):∀ (l:List Version) (m:List (Int×Bool)),(m.map (·.1)).Nodup→((changeV q l m).map (·.1)).Nodup
 | [],m,h=>h
 | v::l,m,h=>sT q l _ (qm _ _ _ (iz _ _ h))
def Change (q:aS) (x:Int):Prop:=
 x=0∨x=q.doc.At∨x=q.doc.Until∨(∃ a∈q.Register.Appoints,x=a.At)∨(∃ a∈q.Register.Interests,x=a.At)∨∃ v∈q.Register.Versions,x=v.At∨∃ y∈v.Policy.Rules,x=q.doc.At+y.Think
theorem CZ (q:aS) (x:Int):x∈(changeM q).map (·.1)↔Change q x:=by
 unfold changeM Change
 rw [uz,sc (fun a:Interest=>a.At),sc (fun a:Appoint=>a.At),mN,mN,mN]
 simp only [List.map_nil,List.not_mem_nil,or_false]
 generalize (∃ y,y∈q.Register.Appoints∧x=y.At)=A
 generalize (∃ y,y∈q.Register.Interests∧x=y.At)=B
 generalize (∃ v,v∈q.Register.Versions∧(x=v.At∨∃ y,y∈v.Policy.Rules∧x=q.doc.At+y.Think))=C
 constructor
 ·rintro ((((h | h | h) | h) | h) | h) <;> simp [h]
 ·rintro (h | h | h | h | h | h) <;> simp [h]
theorem AY (q:aS):((changeM q).map (·.1)).Nodup:=by
 unfold changeM
 exact sT q _ _ (qm _ _ _ (qm _ _ _ (iz _ _ (iz _ _ (iz _ _ List.nodup_nil)))))
theorem uF {l:List Int} (h:l.Pairwise (·≤·)) (hn:l.Nodup):l.Pairwise (· < ·):=by
 induction l with
 | nil=>exact List.Pairwise.nil
 | cons x l ih=>
  rw [List.pairwise_cons] at h ⊢
  rw [List.nodup_cons] at hn
  exact ⟨fun y hy=>by have:=h.1 y hy;have:x≠y:=fun e=>hn.1 (e ▸ hy);omega,ih h.2 hn.2⟩
theorem Cn {q:aS} {f:Int→Bool} (hpos:∀ x,Change q x→0≤x) (hf:∀ t u,0≤t→t≤u→(∀ z,Change q z→t < z→u < z)→f u=f t):
  yI f ((aE q).foldl (stepT f) []) 1099511627776:=by
 rw [zD,Iw]
 have hs:=ky ((changeM q).map Prod.fst)
 have hp:=j3 ((changeM q).map Prod.fst)
 have hn:(sortI ((changeM q).map Prod.fst)).Nodup:=hp.nodup_iff.2 (AY q)
 have hm:∀ x,x∈sortI ((changeM q).map Prod.fst)↔Change q x:=fun x=>(hp.mem_iff).trans (CZ q x)
 generalize sortI ((changeM q).map Prod.fst)=pts at *
 cases pts with
 | nil=>exact absurd ((hm 0).2 (.inl rfl)) (by simp)
 | cons y l=>
  have h0:y=0:=by
   have h1:=hpos y ((hm y).1 (List.mem_cons_self ..))
   rcases List.mem_cons.1 ((hm 0).2 (.inl rfl)) with h | h
   ·exact h.symm
   ·have:=(List.pairwise_cons.1 hs).1 0 h;omega
  subst h0
  refine Co 0 l [] (uF hs hn) (by decide) ⟨trivial,by show (-1:Int)≤0;decide,by decide,fun t h1 h2=>by omega⟩ fun t u h1 h2 h3=>hf t u h1 h2 fun z hz h4=>?_
  rcases List.mem_cons.1 ((hm z).2 hz) with rfl | hz'
  ·omega
  ·exact h3 z hz' h4
end Go.Sg
namespace Go.Sg
set_option linter.unusedVariables false
set_option linter.unusedSimpArgs false
theorem sK {t u known:Int} (k:List (cL×Interest)→List Interest):∀ (l:List Interest) (m:List (cL×Interest)),(∀ y∈l,(t < y.At↔u < y.At))→bu.L1 t known k l m=bu.L1 u known k l m
 | [],m,_=>rfl
 | y::l,m,h=>by
  have e:decide (t < y.At)=decide (u < y.At):=by simp [h y (List.mem_cons_self ..)]
  have ih:=fun m=>sK (known:=known) k l m (fun z hz=>h z (List.mem_cons_of_mem _ hz))
  simp only [bu.L1,e,ih]
theorem zd {l:List Interest} {p:Int} {ps:List Int} {t u known:Int} (ht:0≤t∧t < 1099511627776) (hu:0≤u∧u < 1099511627776) (h:∀ y∈l,(t < y.At↔u < y.At)):dc l p ps t known=dc l p ps u known:=by
 have e1:bu l t known=bu l u known:=sK _ l [] h
 have e2:aK t 1099511627776=aK u 1099511627776:=by simp [aK,ht,hu]
 have e3:cg l p ps t known=cg l p ps u known:=by
  unfold cg
  have:cg.K1 p ps t known=cg.K1 p ps u known:=by funext g;unfold cg.K1;rw [e2]
  rw [this]
 unfold dc
 rw [e1,e3]
theorem zT {t u known:Int} (later:Appoint→Appoint→Bool) (k:List (OSeat×Appoint)→List (OSeat×Appoint)):∀ (l:List Appoint) (m:List (OSeat×Appoint)),(∀ y∈l,(t < y.At↔u < y.At))→bN.L1 (fun cD=>ed cD t known) later k l m=bN.L1 (fun cD=>ed cD u known) later k l m
 | [],m,_=>rfl
 | y::l,m,h=>by
  have e:ed y t known=ed y u known:=by
   have h1:=h y (List.mem_cons_self ..)
   have:decide (y.At≤t)=decide (y.At≤u):=by
    have:y.At≤t↔y.At≤u:=by omega
    simp [this]
   simp only [ed,this]
  have ih:=fun m=>zT (known:=known) later k l m (fun z hz=>h z (List.mem_cons_of_mem _ hz))
  simp only [bN.L1,e,ih]
theorem Bc {l:List Appoint} {o t u known:Int} (ht:0≤t∧t < 1099511627776) (hu:0≤u∧u < 1099511627776) (h:∀ y∈l,(t < y.At↔u < y.At)):dy l o t known=dy l o u known:=by
 have e1:eV l t known=eV l u known:=zT _ _ l [] h
 have e2:bH t=bH u:=by
  have h1:∀ x:Int,0≤x∧x < 1099511627776→bH x=true:=fun x hx=>by simp only [bH,cv,Bool.and_eq_true,decide_eq_true_eq];omega
  rw [h1 t ht,h1 u hu]
 unfold dy
 rw [e1,e2]
theorem C5 {l:List Version} {begun t u known:Int} (ht:0≤t∧t < 1099511627776) (hu:0≤u∧u < 1099511627776) (hb:t < begun↔u < begun) (h:∀ y∈l,(t < y.At↔u < y.At)):aV l begun t known=aV l begun u known:=by
 have L:∀ (k:Bool→List Version→List Int×Int×Int) (ps:List (Int×Version)) b g,(∀ p∈ps,(t < p.1↔u < p.1))→aV.L1 begun t k ps b g=aV.L1 begun u k ps b g:=by
  intro k ps
  induction ps with
  | nil=>intros;rfl
  | cons p ps ih=>
   intro b g hp
   have e:decide (t < p.1)=decide (u < p.1):=by simp [hp p (List.mem_cons_self ..)]
   simp only [aV.L1,e,ih _ _ (fun z hz=>hp z (List.mem_cons_of_mem _ hz))]
 have e2:dU t=dU u:=by simp [dU,ht,hu]
 have e3:decide (t < begun)=decide (u < begun):=by simp [hb]
 unfold aV
 rw [e2,e3,L _ _ _ _ (rI (fun p=>(t < p.1↔u < p.1)) (fun y _ _=>hb) (fun y hy _=>h y hy))]
theorem AU {q:aS} (who:List Int) (hU:q.doc.Until≤1099511627776) (hk:0≤q.doc.Kind) {t u:Int} (h0:0≤t) (htu:t≤u) (hs:∀ z,Change q z→t < z→u < z):bn q who u=bn q who t:=by
 have hs':∀ z,Change q z→(t < z↔u < z):=fun z hz=>⟨hs z hz,fun h=>by omega⟩
 have hA:=hs' q.doc.At (.inr (.inl rfl))
 have hUn:=hs' q.doc.Until (.inr (.inr (.inl rfl)))
 have hap:∀ y∈q.Register.Appoints,(t < y.At↔u < y.At):=fun y hy=>hs' _ (.inr (.inr (.inr (.inl ⟨y,hy,rfl⟩))))
 have hin:∀ y∈q.Register.Interests,(t < y.At↔u < y.At):=fun y hy=>hs' _ (.inr (.inr (.inr (.inr (.inl ⟨y,hy,rfl⟩)))))
 have hve:∀ y∈q.Register.Versions,(t < y.At↔u < y.At):=fun y hy=>hs' _ (.inr (.inr (.inr (.inr (.inr ⟨y,hy,.inl rfl⟩)))))
 have hru:∀ v∈q.Register.Versions,∀ y∈v.Policy.Rules,(t < q.doc.At+y.Think↔u < q.doc.At+y.Think):=fun v hv y hy=>hs' _ (.inr (.inr (.inr (.inr (.inr ⟨v,hv,.inr ⟨y,hy,rfl⟩⟩)))))
 have hd:(decide (u < q.doc.At)||decide (q.doc.Until≤u))=(decide (t < q.doc.At)||decide (q.doc.Until≤t)):=by
  have h1:decide (u < q.doc.At)=decide (t < q.doc.At):=by simp [hA]
  have h2:decide (q.doc.Until≤u)=decide (q.doc.Until≤t):=by
   have:q.doc.Until≤u↔q.doc.Until≤t:=by omega
   simp [this]
  rw [h1,h2]
 unfold bn
 rw [hd]
 cases hc:(decide (t < q.doc.At)||decide (q.doc.Until≤t)) with
 | true=>rfl
 | false=>
  simp only [Bool.or_eq_false_iff,decide_eq_false_iff_not] at hc
  have ht:0≤t∧t < 1099511627776:=by omega
  have hu:0≤u∧u < 1099511627776:=by omega
  simp only [cond_false]
  have ej:av q u=av q t:=by
   have e:=C5 (l:=q.Register.Versions) (begun:=q.doc.At) (known:=q.known) ht hu hA hve
   have L:∀ (l:List Version) (g:List Policy),av.L1 q u (av.K1 q u) l g=av.L1 q t (av.K1 q t) l g:=by
    intro l g
    rw [mP,mP,e]
   unfold av
   rw [← e,L]
  have eh:∀ p,aD q p u=aD q p t:=fun p=>by
   rw [ma,ma]
   exact List.map_congr_left fun j _=>by rw [Bc (known:=q.known) (o:=(j:Int)) ht hu hap]
  have ec:(fun cD=>bo cD q u)=(fun cD=>bo cD q t):=by
   funext a
   unfold bo
   rw [zd (p:=a) (ps:=q.doc.Parties) (known:=q.known) ht hu hin]
  have ek:bn.K1 q u=bn.K1 q t:=by
   funext g
   unfold bn.K1
   rw [ej]
  rw [ej,ek]
  have L:∀ (k:List Bool→Bool) (l:List Policy) (g:List Bool),(∀ p∈l,∃ v∈q.Register.Versions,v.Policy=p)→0≤q.doc.Kind→bn.L1 q who u k l g=bn.L1 q who t k l g:=by
   intro k l
   induction l with
   | nil=>intros;rfl
   | cons p l ih=>
    intro g hl hk
    obtain ⟨v,hv,hvp⟩:=hl p (List.mem_cons_self ..)
    have e:(decide (q.doc.Kind < ((p.Rules.length:Nat):Int))&&decide ((q.doc.At+(nthI p.Rules q.doc.Kind).Think)≤u))=(decide (q.doc.Kind < ((p.Rules.length:Nat):Int))&&decide ((q.doc.At+(nthI p.Rules q.doc.Kind).Think)≤t)):=by
     by_cases hkl:q.doc.Kind < ((p.Rules.length:Nat):Int)
     ·have:=hru v hv (nthI p.Rules q.doc.Kind) (by rw [hvp];exact ki ⟨hk,hkl⟩)
      have h2:(q.doc.At+(nthI p.Rules q.doc.Kind).Think≤u)↔(q.doc.At+(nthI p.Rules q.doc.Kind).Think≤t):=by omega
      simp [h2]
     ·simp [hkl]
    simp only [bn.L1,e,eh,ec,ih _ (fun z hz=>hl z (List.mem_cons_of_mem _ hz)) hk]
  exact L _ _ _ (fun p hp=>qe hp) hk
end Go.Sg
namespace Go.Sg
set_option linter.unusedVariables false
set_option linter.unusedSimpArgs false
section chk
variable {α : Type} [Inhabited α]
def refChk (R:α→Bool) (no:α→Int) (c:Int) (L:List α):List α→Nat→Int
 | [],_=>0
 | y::l,i=>bif (!(R y))||(decide (0 < ((i:Nat):Int))&&decide (no y≤no (nthI L (((i:Nat):Int) - 1)))) then c else refChk R no c L l (i+1)
def prgChk (R:α→Bool) (no:α→Int) (c:Int):List α→Int→Int
 | [],_=>0
 | y::l,g=>bif (!(R y))||decide (no y≤g) then c else prgChk R no c l (no y)
theorem CV (R:α→Bool) (no:α→Int) (c:Int) (L:List α):∀ (l pre:List α) (x:α),L=(pre++[x])++l→refChk R no c L l (pre.length+1)=prgChk R no c l (no x)
 | [],_,_,_=>rfl
 | y::l,pre,x,h=>by
  have hx:nthI L (((pre.length+1:Nat):Int) - 1)=x:=by
   have hb:0≤(((pre.length+1:Nat):Int) - 1)∧(((pre.length+1:Nat):Int) - 1) < (L.length:Int):=by rw [h];simp;omega
   have hg:=eN hb
   rw [show ((((pre.length+1:Nat):Int) - 1)).toNat=pre.length from by omega,h] at hg
   rw [h];simpa using hg.symm
  have hd:decide (0 < ((pre.length+1:Nat):Int))=true:=by rw [decide_eq_true_eq];omega
  have ih:=CV R no c L l (pre++[x]) y (by rw [h];simp)
  rw [List.length_append,List.length_cons,List.length_nil,Nat.zero_add] at ih
  simp only [refChk,prgChk,hx,hd,Bool.true_and,ih]
theorem yw (R:α→Bool) (no:α→Int) (c:Int) (hR:∀ y,R y=true→0≤no y) (l:List α):refChk R no c l l 0=prgChk R no c l (-1):=by
 cases l with
 | nil=>rfl
 | cons y l=>
  have ih:=CV R no c (y::l) l [] y rfl
  simp only [List.length_nil,Nat.zero_add] at ih
  simp only [refChk,prgChk,Nat.zero_add,ih]
  cases hr:R y with
  | false=>rfl
  | true=>
   have:decide (no y≤-1)=false:=by have:=hR y hr;simp;omega
   rw [this];rfl
end chk
theorem vz (l:List Appoint):cx l=ey l:=by
 have hR:∀ x,jf x=hO x:=fun x=>by
  rw [Bool.eq_iff_iff]
  simp only [jf,hO,Bool.cond_eq_ite]
  cases x.Gone <;> simp only [if_true,if_false,Bool.false_eq_true,Bool.and_eq_true,Bool.or_eq_true,Bool.not_eq_true',decide_eq_true_eq,decide_eq_false_iff_not,beq_iff_eq,cv,bH,dM,fq,ij,jX,kC,Bool.and_eq_false_iff]
   <;> (split <;> simp only [Bool.false_eq_true,iff_false,decide_eq_true_eq,Bool.and_eq_true,beq_iff_eq] <;> omega)
 have h1:∀ (L l:List Appoint) i,ey.L1 L ey.K1 l i=refChk hO (·.No) 150 L l i:=by
  intro L l
  induction l with
  | nil=>intro i;rfl
  | cons y l ih=>intro i;simp only [ey.L1,refChk,ih]
 have h2:∀ (l:List Appoint) g,cx.L1 cx.K1 l g=prgChk hO (·.No) 150 l g:=by
  intro l
  induction l with
  | nil=>intro g;rfl
  | cons y l ih=>intro g;simp only [cx.L1,prgChk,ih,hR]
 unfold cx ey
 rw [h1,h2,yw]
 intro y hy
 simp only [hO,Bool.cond_eq_ite] at hy
 split at hy
 ·cases hy
 ·next h=>simp only [Bool.or_eq_true,not_or,decide_eq_true_eq] at h;omega
theorem AT (l:List Deputy):dg l=fg l:=by
 have hR:∀ x,jq x=ip x:=fun x=>by
  rw [Bool.eq_iff_iff]
  simp only [jq,ip,Bool.cond_eq_ite,cQ,ef,eA,dX,gZ,ig]
  generalize (!(decide (0≤x.No)&&decide (x.No≤1048576))||!(decide (0≤x.At)&&decide (x.At≤1099511627775))||!(decide (0≤x.Known)&&decide (x.Known≤1099511627775))||!(decide (0≤x.From)&&decide (x.From≤63))||!(decide (0≤x.To)&&decide (x.To≤63))||x.From==x.To)=A
  cases A <;> simp
 have h1:∀ (L l:List Deputy) i,fg.L1 L fg.K1 l i=refChk ip (·.No) 160 L l i:=by
  intro L l
  induction l with
  | nil=>intro i;rfl
  | cons y l ih=>intro i;simp only [fg.L1,refChk,ih]
 have h2:∀ (l:List Deputy) g,dg.L1 dg.K1 l g=prgChk ip (·.No) 160 l g:=by
  intro l
  induction l with
  | nil=>intro g;rfl
  | cons y l ih=>intro g;simp only [dg.L1,prgChk,ih,hR]
 unfold dg fg
 rw [h1,h2,yw]
 intro y hy
 simp only [ip,Bool.cond_eq_ite] at hy
 split at hy
 ·cases hy
 ·next h=>simp only [Bool.or_eq_true,not_or,decide_eq_true_eq,dX,Bool.not_eq_true',Bool.and_eq_false_iff,decide_eq_false_iff_not] at h;omega
theorem sS (l:List Interest):bS l=eQ l:=by
 have hR:∀ x,iw x=gY x:=fun x=>by
  rw [Bool.eq_iff_iff]
  simp only [iw,gY,Bool.cond_eq_ite,aK,iM,jk,kA]
  cases x.Of <;> simp only [if_true,if_false,Bool.false_eq_true,Bool.and_eq_true,Bool.or_eq_true,Bool.not_eq_true',decide_eq_true_eq,decide_eq_false_iff_not,bne_iff_ne,Bool.and_eq_false_iff]
   <;> (split <;> simp only [Bool.false_eq_true,iff_false,decide_eq_true_eq,Bool.and_eq_true,bne_iff_ne] <;> omega)
 have h1:∀ (L l:List Interest) i,eQ.L1 L eQ.K1 l i=refChk gY (·.No) 290 L l i:=by
  intro L l
  induction l with
  | nil=>intro i;rfl
  | cons y l ih=>intro i;simp only [eQ.L1,refChk,ih]
 have h2:∀ (l:List Interest) g,bS.L1 bS.K1 l g=prgChk gY (·.No) 290 l g:=by
  intro l
  induction l with
  | nil=>intro g;rfl
  | cons y l ih=>intro g;simp only [bS.L1,prgChk,ih,hR]
 unfold bS eQ
 rw [h1,h2,yw]
 intro y hy
 simp only [gY,Bool.cond_eq_ite] at hy
 split at hy
 ·cases hy
 ·next h=>simp only [Bool.or_eq_true,not_or,decide_eq_true_eq] at h;omega
end Go.Sg
namespace Go.Sg
set_option linter.unusedVariables false
set_option linter.unusedSimpArgs false
theorem vE (f:Int→Bool):∀ (l:List Int) (i:Nat),decide (0≤bU.L1 f bU.K1 l i)=l.any f
 | [],i=>by simp [bU.L1,bU.K1]
 | y::l,i=>by
  have ih:=vE f l (i+1)
  simp only [bU.L1,List.any_cons]
  by_cases hf:f y=true
  ·simp [hf]
  ·simp only [Bool.not_eq_true] at hf
   simp only [hf,cond_false,Bool.false_or]
   exact ih
theorem containsF (l:List Int) (f:Int→Bool):cH l f=l.any f:=vE f l 0
theorem C2 (l:List Budget):dk l=fA l:=by
 have hR:∀ x,jG x=io x:=fun x=>by
  rw [Bool.eq_iff_iff]
  simp only [jG,io,Bool.cond_eq_ite,aI,containsF,iq,List.any_cons,List.any_nil,Bool.or_false,eu,gB]
  cases x.Gone <;> simp only [if_true,if_false,Bool.false_eq_true,Bool.and_eq_true,Bool.or_eq_true,Bool.not_eq_true',decide_eq_true_eq,decide_eq_false_iff_not,beq_iff_eq,Bool.and_eq_false_iff,Bool.or_eq_false_iff]
   <;> (split <;> simp only [Bool.false_eq_true,iff_false,decide_eq_true_eq,Bool.and_eq_true,beq_iff_eq] <;> omega)
 have h1:∀ (L l:List Budget) i,fA.L1 L fA.K1 l i=refChk io (·.No) 180 L l i:=by
  intro L l
  induction l with
  | nil=>intro i;rfl
  | cons y l ih=>intro i;simp only [fA.L1,refChk,ih]
 have h2:∀ (l:List Budget) g,dk.L1 dk.K1 l g=prgChk io (·.No) 180 l g:=by
  intro l
  induction l with
  | nil=>intro g;rfl
  | cons y l ih=>intro g;simp only [dk.L1,prgChk,ih,hR]
 unfold dk fA
 rw [h1,h2,yw]
 intro y hy
 simp only [io,Bool.cond_eq_ite] at hy
 split at hy
 ·cases hy
 ·next h=>simp only [Bool.or_eq_true,not_or,decide_eq_true_eq,eu,Bool.not_eq_true',Bool.and_eq_false_iff,decide_eq_false_iff_not] at h;omega
theorem zh (l:List Approval):cz l=fy l:=by
 have hR:∀ x,iW x=im x:=fun x=>by
  rw [Bool.eq_iff_iff]
  simp only [iW,im,Bool.cond_eq_ite,cq,containsF,ib,List.any_cons,List.any_nil,Bool.or_false,dK,i9,mM]
  simp only [Bool.and_eq_true,Bool.or_eq_true,Bool.not_eq_true',decide_eq_true_eq,decide_eq_false_iff_not,Bool.and_eq_false_iff,Bool.or_eq_false_iff]
  split <;> simp only [Bool.false_eq_true,iff_false,decide_eq_true_eq,Bool.and_eq_true] <;> omega
 have h1:∀ (L l:List Approval) i,fy.L1 L fy.K1 l i=refChk im (·.No) 280 L l i:=by
  intro L l
  induction l with
  | nil=>intro i;rfl
  | cons y l ih=>intro i;simp only [fy.L1,refChk,ih]
 have h2:∀ (l:List Approval) g,cz.L1 cz.K1 l g=prgChk im (·.No) 280 l g:=by
  intro l
  induction l with
  | nil=>intro g;rfl
  | cons y l ih=>intro g;simp only [cz.L1,prgChk,ih,hR]
 unfold cz fy
 rw [h1,h2,yw]
 intro y hy
 simp only [im,Bool.cond_eq_ite] at hy
 split at hy
 ·cases hy
 ·next h=>simp only [Bool.or_eq_true,not_or,decide_eq_true_eq,dK,Bool.not_eq_true',Bool.and_eq_false_iff,decide_eq_false_iff_not] at h;omega
def refLs (B:Int→Bool) (L:List Int) (k:Bool):List Int→Nat→Bool
 | [],_=>k
 | y::l,i=>bif (B y)||(decide (0 < ((i:Nat):Int))&&decide (y≤nthI L (((i:Nat):Int) - 1))) then false else refLs B L k l (i+1)
theorem w4 (B:Int→Bool) (L:List Int) (k:Bool):∀ (l pre:List Int) (x:Int),L=(pre++[x])++l→refLs B L k l (pre.length+1)=true→((∀ y∈l,B y=false)∧k=true)∧(x::l).Pairwise (· < ·)
 | [],_,_,_,h=>⟨⟨fun _ h=>(List.not_mem_nil h).elim,h⟩,by simp⟩
 | y::l,pre,x,h,hr=>by
  have hx:nthI L (((pre.length+1:Nat):Int) - 1)=x:=by
   have hb:0≤(((pre.length+1:Nat):Int) - 1)∧(((pre.length+1:Nat):Int) - 1) < (L.length:Int):=by rw [h];simp;omega
   have hg:=eN hb
   rw [show ((((pre.length+1:Nat):Int) - 1)).toNat=pre.length from by omega,h] at hg
   rw [h];simpa using hg.symm
  simp only [refLs,hx,Bool.cond_eq_ite] at hr
  split at hr
  ·cases hr
  ·next hc=>
   simp only [Bool.or_eq_true,Bool.and_eq_true,decide_eq_true_eq,not_or] at hc
   have ih:=w4 B L k l (pre++[x]) y (by rw [h];simp)
   rw [List.length_append,List.length_cons,List.length_nil,Nat.zero_add] at ih
   obtain ⟨⟨i1,i2⟩,i3⟩:=ih hr
   have hxy:x < y:=by omega
   refine ⟨⟨fun z hz=>?_,i2⟩,List.pairwise_cons.2 ⟨fun z hz=>?_,i3⟩⟩
   ·rcases List.mem_cons.1 hz with rfl | hz
    ·simpa using hc.1
    ·exact i1 z hz
   ·rcases List.mem_cons.1 hz with rfl | hz
    ·exact hxy
    ·have:=(List.pairwise_cons.1 i3).1 z hz;omega
theorem BP {B:Int→Bool} {k:Bool} {l:List Int} (h:refLs B l k l 0=true):((∀ y∈l,B y=false)∧k=true)∧l.Pairwise (· < ·):=by
 cases l with
 | nil=>exact ⟨⟨fun _ h=>(List.not_mem_nil h).elim,h⟩,List.Pairwise.nil⟩
 | cons y l=>
  simp only [refLs,Bool.cond_eq_ite] at h
  split at h
  ·cases h
  ·next hc=>
   simp only [Bool.or_eq_true,not_or] at hc
   obtain ⟨⟨i1,i2⟩,i3⟩:=w4 B (y::l) k l [] y rfl h
   refine ⟨⟨fun z hz=>?_,i2⟩,i3⟩
   rcases List.mem_cons.1 hz with rfl | hz
   ·simpa using hc.1
   ·exact i1 z hz
theorem wZ {l:List Int} {limit:Int} (h:dZ l limit=true):((∀ x∈l,0≤x∧x < limit)∧l.Pairwise (· < ·))∧l.length≤16:=by
 have e:∀ (L l:List Int) i,dZ.L1 L limit (dZ.K1 L) l i=refLs (fun y=>decide (y < 0)||decide (limit≤y)) L (dZ.K1 L) l i:=by
  intro L l
  induction l with
  | nil=>intro i;rfl
  | cons y l ih=>intro i;simp only [dZ.L1,refLs,ih]
 unfold dZ at h
 rw [e] at h
 obtain ⟨⟨h1,h2⟩,h3⟩:=BP h
 refine ⟨⟨fun x hx=>?_,h3⟩,?_⟩
 ·have:=h1 x hx;simp only [Bool.or_eq_false_iff,decide_eq_false_iff_not] at this;omega
 ·simp only [dZ.K1,decide_eq_true_eq] at h2;omega
theorem DI {l:List Int} (h:e5 l=true):(∀ x∈l,0≤x∧x < 64)∧l.Pairwise (· < ·):=by
 have e:∀ (L l:List Int) i,e5.L1 L e5.K1 l i=refLs (fun y=>decide (y < 0)||decide (64≤y)) L true l i:=by
  intro L l
  induction l with
  | nil=>intro i;rfl
  | cons y l ih=>intro i;simp only [e5.L1,refLs,ih]
 unfold e5 at h
 rw [e] at h
 obtain ⟨⟨h1,h2⟩,h3⟩:=BP h
 refine ⟨fun x hx=>?_,h3⟩
 have:=h1 x hx;simp only [Bool.or_eq_false_iff,decide_eq_false_iff_not] at this;omega
theorem vr {d:Document} (h:gK d=true):EW d:=by
 simp only [gK,Bool.cond_eq_ite] at h
 split at h
 ·cases h
 ·next hc=>
  simp only [Bool.or_eq_true,not_or,decide_eq_true_eq,jL,Bool.not_eq_true',Bool.and_eq_false_iff,decide_eq_false_iff_not] at hc
  simp only [Bool.and_eq_true,decide_eq_true_eq] at h
  obtain ⟨⟨⟨⟨⟨h1,h2⟩,h3⟩,h4⟩,h5⟩,h6⟩:=h
  exact ⟨by omega,by omega,by omega,by omega,⟨h1,h2⟩,h3,wZ h4,wZ h5,wZ h6⟩
end Go.Sg
namespace Go.Sg
set_option linter.unusedVariables false
set_option linter.unusedSimpArgs false
theorem BB (L:List Document):∀ (l:List Document) (i:Nat) (m:List (Int×Int)),(bv.L1 (bv.K1 L) l i m).docs=L∧∀ x,mhas (bv.L1 (bv.K1 L) l i m).at_ x=(mhas m x||l.any fun d=>d.No==x)
 | [],i,m=>⟨rfl,fun x=>by simp [bv.L1,bv.K1]⟩
 | y::l,i,m=>by
  obtain ⟨h1,h2⟩:=BB L l (i+1) (mput m y.No ((i:Nat):Int))
  refine ⟨h1,fun x=>?_⟩
  show mhas (bv.L1 (bv.K1 L) l (i+1) (mput m y.No ((i:Nat):Int))).at_ x=_
  rw [h2 x,List.any_cons]
  have:mhas (mput m y.No ((i:Nat):Int)) x=(mhas m x||y.No==x):=by
   unfold mhas
   rw [zR]
   by_cases e:x=y.No
   ·subst e;simp
   ·rw [if_neg e]
    have:(y.No==x)=false:=by simp;exact fun h=>e h.symm
    rw [this,Bool.or_false]
  rw [this,Bool.or_assoc]
theorem vJ (no:Int):∀ (l:List Document) (i:Nat),0≤f4.L1 no f4.K1 l i→(l.any fun d=>d.No==no)=true
 | [],i,h=>by simp [f4.L1,f4.K1] at h
 | y::l,i,h=>by
  simp only [f4.L1,Bool.cond_eq_ite] at h
  rw [List.any_cons]
  by_cases e:(y.No==no)=true
  ·rw [e];rfl
  ·rw [if_neg e] at h
   rw [vJ no l (i+1) h,Bool.or_true]
theorem zx (L:List Document):∀ nos:List Int,cW.L1 L cW.K1 nos=true→∀ x∈nos,(L.any fun d=>d.No==x)=true
 | [],_=>fun _ h=>(List.not_mem_nil h).elim
 | y::nos,h=>by
  simp only [cW.L1,Bool.cond_eq_ite,decide_eq_true_eq] at h
  split at h
  ·cases h
  ·next hc=>
   intro x hx
   rcases List.mem_cons.1 hx with rfl | hx
   ·exact vJ x L 0 (by unfold f4 at hc;omega)
   ·exact zx L nos h x hx
theorem IF {L:List Document} {d:Document} (h1:cW L d.Revokes=true) (h2:cW L d.Needs=true):er (bv L) d=true:=by
 have hs:=(BB L L 0 []).2
 have key:∀ nos,cW L nos=true→cH nos (fun cD=>dR cD (bv L))=false:=by
  intro nos hn
  rw [containsF,List.any_eq_false]
  intro x hx
  unfold dR
  have:=zx L nos hn x hx
  have e:mhas (bv L).at_ x=true:=by
   show mhas (bv.L1 (bv.K1 L) L 0 []).at_ x=true
   rw [hs x,this,Bool.or_true]
  rw [e];simp
 unfold er
 rw [key _ h1,key _ h2];rfl
theorem zc {l:List Document} (h:eR l=0):cj l=0:=by
 have L:∀ (L l:List Document) (i:Nat),eR.L1 L eR.K1 l i=0→cj.L1 L cj.K1 l i=0:=by
  intro L l
  induction l with
  | nil=>intros;rfl
  | cons y l ih=>
   intro i h
   simp only [eR.L1,Bool.cond_eq_ite] at h
   split at h
   ·omega
   ·next hc=>
    simp only [Bool.or_eq_true,not_or,Bool.not_eq_true',Bool.not_eq_false,Bool.not_eq_true] at hc
    obtain ⟨⟨⟨c1,c2⟩,c3⟩,c4⟩:=hc
    simp only [cj.L1,(BL y).2 (vr c1),c2,IF c3 c4,Bool.not_true,Bool.or_false,cond_false]
    exact ih (i+1) h
 unfold eR at h
 unfold cj
 rw [Bool.cond_eq_ite] at h ⊢
 split at h
 ·omega
 ·next hc=>rw [if_neg hc];exact L l l 0 h
theorem askIdx (no:Int):∀ (l:List Document) (i:Nat),ab.L1 (fun cD=>aG cD no) ab.K1 l i=dv.L1 no dv.K1 l i
 | [],i=>rfl
 | y::l,i=>by
  have ih:=askIdx no l (i+1)
  simp only [ab.L1,dv.L1]
  rw [ih];rfl
theorem IP {r:Register} {doc known:Int} (h:0≤dv r doc) (hk:0≤known∧known < 1099511627776):cT r doc known=(⟨r,nthI r.Docs (dv r doc),known⟩,true):=by
 have e:ab r.Docs (fun cD=>aG cD doc)=dv r doc:=askIdx doc r.Docs 0
 unfold cT
 rw [e]
 have h1:decide (dv r doc < 0)=false:=by simp;omega
 have h2:jK known=true:=by simp [jK,hk]
 rw [h1,h2]
 rfl
theorem xp:∀ (l:List Int) (g:Int),(∀ x∈l,g < x∧x < 64)→l.Pairwise (· < ·)→fP.L1 fP.K1 l g=true
 | [],_,_,_=>rfl
 | y::l,g,h,hp=>by
  have h1:=h y (List.mem_cons_self ..)
  have e:(decide (y≤g)||decide (64≤y))=false:=by simp;omega
  simp only [fP.L1,e,cond_false]
  exact xp l y (fun x hx=>⟨(List.pairwise_cons.1 hp).1 x hx,(h x (List.mem_cons_of_mem _ hx)).2⟩) (List.pairwise_cons.1 hp).2
theorem DW {l:List Int} (h:(∀ x∈l,0≤x∧x < 64)∧l.Pairwise (· < ·)):fP l=true:=xp l (-1) (fun x hx=>by have:=h.1 x hx;omega) h.2
end Go.Sg
namespace Go.Sg
set_option linter.unusedVariables false
set_option linter.unusedSimpArgs false
theorem zU (x:Int):∀ (l:List Int) (i:Nat),(0≤dL.L1 x dL.K1 l i)↔x∈l
 | [],i=>by simp [dL.L1,dL.K1]
 | y::l,i=>by
  have ih:=zU x l (i+1)
  simp only [dL.L1,Bool.cond_eq_ite,beq_iff_eq,List.mem_cons]
  by_cases e:x=y
  ·rw [if_pos e];simp [e]
  ·rw [if_neg e,ih];simp [e]
theorem AV (l:List Int) (x:Int):fQ l x=true↔x∈l:=by
 unfold fQ
 rw [decide_eq_true_eq]
 exact zU x l 0
theorem Cg (mode:Int) (l:List Version) (old:Bool):(judgesP mode l old).Sublist l:=by
 unfold judgesP il gR ik
 cases mode==1 <;> cases mode==2 <;> cases old <;> simp [List.take_sublist,List.drop_sublist]
theorem yG (begun at_:Int) (k:Bool→List Version→List Int×Int×Int):∀ (l:List (Int×Version)) b g,∃ (pre:List (Int×Version)) (b':Bool),pre.Sublist l∧aV.L1 begun at_ k l b g=k b' (g++pre.map (·.2))
 | [],b,g=>⟨[],b,List.Sublist.refl _,by simp [aV.L1]⟩
 | y::l,b,g=>by
  simp only [aV.L1]
  cases decide (at_ < y.1)
  ·obtain ⟨pre,b',h1,h2⟩:=yG begun at_ k l (b||(y.1==begun)) (g++[y.2])
   exact ⟨y::pre,b',h1.cons_cons _,by rw [cond_false,h2];simp⟩
  ·exact ⟨[],b,List.nil_sublist _,by simp⟩
theorem EE {l:List Version} (h:l.Pairwise (fun a b=>a.No < b.No)) {a b:Version} (ha:a∈l) (hb:b∈l) (e:a.No=b.No):a=b:=by
 induction l with
 | nil=>cases ha
 | cons x l ih=>
  obtain ⟨h1,h2⟩:=List.pairwise_cons.1 h
  rcases List.mem_cons.1 ha with ea | ha' <;> rcases List.mem_cons.1 hb with eb | hb'
  ·rw [ea,eb]
  ·have:=h1 b hb';rw [ea] at e;omega
  ·have:=h1 a ha';rw [eb] at e;omega
  ·exact ih h2 ha' hb'
theorem k9 (known eo:Int):∀ (l:List Version) b m,(m.map (·.1)).Nodup→((inForceM known eo l b m).map (·.1)).Nodup
 | [],b,m,h=>h
 | y::l,b,m,h=>by
  simp only [inForceM,Bool.cond_eq_ite]
  split
  ·exact k9 known eo l _ _ h
  ·split
   ·split
    ·exact k9 known eo l _ _ h
    ·exact k9 known eo l _ _ (iz _ _ h)
   ·exact k9 known eo l _ _ (iz _ _ h)
theorem AL (l:List Version) (eo known:Int):(e8 l eo known).Pairwise (fun p q=>p.1 < q.1):=by
 rw [nX,List.pairwise_map]
 exact uF (ky _) ((j3 _).nodup_iff.2 (k9 known eo l (-1) [] List.nodup_nil))
theorem Cj {l:List Version} (g:vT l) (eo known:Int):(e8 l eo known).Pairwise (fun p q=>p.2.No≠q.2.No):=by
 have hP:=rI (l:=l) (eo:=eo) (known:=known) (fun p=>((p.2.At≤eo∧p.1=eo)∨(eo < p.2.At∧p.1=p.2.At))∧p.2∈l) (fun y hy h=>⟨.inl ⟨h,rfl⟩,hy⟩) (fun y hy h=>⟨.inr ⟨h,rfl⟩,hy⟩)
 refine (AL l eo known).imp_of_mem fun {p q} hp hq hlt e=>?_
 have h1:=hP p hp
 have h2:=hP q hq
 have h3:=EE g.inc h1.2 h2.2 e
 rw [h3] at h1
 omega
structure Jdg (l:List Version) (J:List Int×Int×Int):Prop where
 err:J.2.2=0
 rise:J.1.Pairwise (· < ·)
 mem:∀ x∈J.1,∃ v∈l,v.No=x
 mode:J.1≠[]→1≤J.2.1∧J.2.1≤4
theorem Fs {l:List Version} (g:vT l) {begun at_ known:Int} (hb:0≤begun∧begun < 1099511627776) (ht:0≤at_∧at_ < 1099511627776) (hk:0≤known∧known < 1099511627776) (hle:begun≤at_):Jdg l (aV l begun at_ known):=by
 have h0:br l=0:=(kw l).2 g
 have h1:∀ x:Int,0≤x∧x < 1099511627776→dU x=true:=fun x hx=>by simp [dU,hx]
 have h2:decide (at_ < begun)=false:=by simp;omega
 unfold aV
 rw [h0,h1 _ hb,h1 _ ht,h1 _ hk,h2]
 simp only [bne_self_eq_false,cond_false,Bool.not_true,Bool.or_false]
 obtain ⟨pre,b',hs,e⟩:=yG begun at_ aV.K1 (e8 l begun known) false []
 rw [e,List.nil_append]
 unfold aV.K1
 cases hc:((((pre.map (·.2)).length:Nat):Int)==0) with
 | true=>exact ⟨rfl,List.Pairwise.nil,fun x hx=>(List.not_mem_nil hx).elim,fun h=>absurd rfl h⟩
 | false=>
  simp only [cond_false,Ag,aV.K2,List.nil_append]
  have hpre:pre.length≠0:=by simpa using hc
  have hsub:=Cg ((nthI (pre.map (·.2)) ((((pre.map (·.2)).length:Nat):Int) - 1)).Policy.Mode) (pre.map (·.2)) b'
  have hnd:(pre.map (·.2)).Pairwise (fun a b=>a.No≠b.No):=by
   rw [List.pairwise_map]
   exact (Cj g begun known).sublist hs
  refine ⟨rfl,uF (ky _) ((j3 _).nodup_iff.2 ?_),fun x hx=>?_,fun _=>?_⟩
  ·show List.Pairwise _ _
   rw [List.pairwise_map]
   exact hnd.sublist hsub
  ·have hx2:=(j3 _).mem_iff.1 hx
   obtain ⟨v,hv,rfl⟩:=List.mem_map.1 hx2
   obtain ⟨p,hp,rfl⟩:=List.mem_map.1 (hsub.subset hv)
   exact ⟨p.2,rH p (hs.subset hp),rfl⟩
  ·have hm:nthI (pre.map (·.2)) ((((pre.map (·.2)).length:Nat):Int) - 1)∈pre.map (·.2):=ki (by rw [List.length_map];omega)
   obtain ⟨p,hp,hpe⟩:=List.mem_map.1 hm
   have:=g.mode (rH p (hs.subset hp))
   rw [hpe] at this
   exact this
end Go.Sg
namespace Go.Sg
set_option linter.unusedVariables false
set_option linter.unusedSimpArgs false
def cval (q:aS) (who:List Int) (t:Int) (p:Policy):Bool:=
 bif (decide (q.doc.Kind < ((p.Rules.length:Nat):Int))&&decide ((q.doc.At+(nthI p.Rules q.doc.Kind).Think)≤t)) then ((cp p q.doc.Kind q.doc.Value (aD q p t) (bx who (fun cD=>bo cD q t))).1&&((cp p q.doc.Kind q.doc.Value (aD q p t) (bx who (fun cD=>bo cD q t))).2==0))
 else (decide (q.doc.Kind < ((p.Rules.length:Nat):Int))&&decide ((q.doc.At+(nthI p.Rules q.doc.Kind).Think)≤t))
theorem ES (q:aS) (who:List Int) (t:Int) (k:List Bool→Bool):∀ (l:List Policy) (g:List Bool),bn.L1 q who t k l g=k (g++l.map (cval q who t))
 | [],g=>by simp [bn.L1]
 | y::l,g=>by
  have ih:=ES q who t k l
  simp only [bn.L1,ih,List.map_cons]
  unfold cval
  cases (decide (q.doc.Kind < ((y.Rules.length:Nat):Int))&&decide ((q.doc.At+(nthI y.Rules q.doc.Kind).Think)≤t)) <;> simp
end Go.Sg
namespace Go.Sg
set_option linter.unusedVariables false
set_option linter.unusedSimpArgs false
theorem Ho (L:List Appoint):∀ (l:List Appoint) (i:Nat),ey.L1 L ey.K1 l i=0→∀ d∈l,0≤d.At
 | [],_,_=>fun _ h=>(List.not_mem_nil h).elim
 | y::l,i,h=>by
  simp only [ey.L1,Bool.cond_eq_ite] at h
  split at h
  ·omega
  ·next hc=>
   simp only [Bool.or_eq_true,not_or,Bool.not_eq_true',Bool.not_eq_false] at hc
   intro d hd
   rcases List.mem_cons.1 hd with rfl | hd
   ·have h1:=hc.1
    simp only [hO,Bool.cond_eq_ite] at h1
    split at h1
    ·cases h1
    ·next h2=>simp only [Bool.or_eq_true,not_or,Bool.not_eq_true',Bool.not_eq_false,ij,Bool.and_eq_true,decide_eq_true_eq] at h2;omega
   ·exact Ho L l (i+1) h d hd
theorem Hl (L:List Interest):∀ (l:List Interest) (i:Nat),eQ.L1 L eQ.K1 l i=0→∀ d∈l,0≤d.At
 | [],_,_=>fun _ h=>(List.not_mem_nil h).elim
 | y::l,i,h=>by
  simp only [eQ.L1,Bool.cond_eq_ite] at h
  split at h
  ·omega
  ·next hc=>
   simp only [Bool.or_eq_true,not_or,Bool.not_eq_true',Bool.not_eq_false] at hc
   intro d hd
   rcases List.mem_cons.1 hd with rfl | hd
   ·have h1:=hc.1
    simp only [gY,Bool.cond_eq_ite] at h1
    split at h1
    ·cases h1
    ·next h2=>simp only [Bool.or_eq_true,not_or,Bool.not_eq_true',Bool.not_eq_false,iM,Bool.and_eq_true,decide_eq_true_eq] at h2;omega
   ·exact Hl L l (i+1) h d hd
theorem IK {l:List Appoint} (h:ey l=0):∀ d∈l,0≤d.At:=by
 unfold ey at h
 rw [Bool.cond_eq_ite] at h
 split at h
 ·omega
 ·exact Ho l l 0 h
theorem IJ {l:List Interest} (h:eQ l=0):∀ d∈l,0≤d.At:=by
 unfold eQ at h
 rw [Bool.cond_eq_ite] at h
 split at h
 ·omega
 ·exact Hl l l 0 h
end Go.Sg
namespace Go.Sg
set_option linter.unusedVariables false
set_option linter.unusedSimpArgs false
theorem uW {β : Type} (F:(Expr→β)→Expr→β) (go:Nat→Expr→β) (h:∀ m,go (m+1)=F (go m)) (hF:∀ f g x,(∀ y∈x.L,f y=g y)→F f x=F g x) (x:Expr):go x.dep x=F (fun y=>go y.dep y) x:=by
 have key:∀ x:Expr,∀ m,x.dep≤m→go m x=go x.dep x:=by
  refine fun x=>Expr.ind (P:=fun x=>∀ m,x.dep≤m→go m x=go x.dep x) ?_ x
  intro x ih m hm
  have hp:=Expr.j1 x
  obtain ⟨m',rfl⟩:∃ m',m=m'+1:=⟨m - 1,by omega⟩
  obtain ⟨n,hn⟩:∃ n,x.dep=n+1:=⟨x.dep - 1,by omega⟩
  rw [hn,h,h]
  refine hF _ _ _ fun y hy=>?_
  have:=Expr.iv hy
  rw [ih y hy m' (by omega),ih y hy n (by omega)]
 have hp:=Expr.j1 x
 obtain ⟨n,hn⟩:∃ n,x.dep=n+1:=⟨x.dep - 1,by omega⟩
 rw [hn,h]
 refine hF _ _ _ fun y hy=>?_
 have:=Expr.iv hy
 exact key y n (by omega)
theorem Hx (x:Expr):bG x=bG.F bG x:=by
 refine uW bG.F bG.go (fun m=>rfl) (fun f g x h=>?_) x
 unfold bG.F
 have:∀ (k:Int→Int) (l:List Expr) a,(∀ y∈l,f y=g y)→bG.L1 f k l a=bG.L1 g k l a:=by
  intro k l
  induction l with
  | nil=>intros;rfl
  | cons y l ih=>intro a hl;simp only [bG.L1,hl y (List.mem_cons_self ..)];exact ih _ fun z hz=>hl z (List.mem_cons_of_mem _ hz)
 exact this _ _ _ h
theorem depthL (l:List Expr):∀ (a:Int),a≤bG.L1 bG (fun g=>g) l a∧(∀ y∈l,bG y≤bG.L1 bG (fun g=>g) l a)∧∀ M:Int,a≤M→(∀ y∈l,bG y≤M)→bG.L1 bG (fun g=>g) l a≤M:=by
 induction l with
 | nil=>intro a;exact ⟨Int.le_refl _,fun _ h=>(List.not_mem_nil h).elim,fun M h _=>h⟩
 | cons y l ih=>
  intro a
  obtain ⟨i1,i2,i3⟩:=ih (max a (bG y))
  simp only [bG.L1]
  refine ⟨by omega,fun w hw=>?_,fun M h1 h2=>i3 M (by have:=h2 y (List.mem_cons_self ..);omega) fun w hw=>h2 w (List.mem_cons_of_mem _ hw)⟩
  rcases List.mem_cons.1 hw with rfl | hw
  ·omega
  ·exact i2 w hw
theorem depthK (l:List Expr):∀ (a:Int),bG.L1 bG bG.K1 l a=IntKind.i64.wrap (bG.L1 bG (fun g=>g) l a+1):=by
 induction l with
 | nil=>intro a;rfl
 | cons y l ih=>intro a;exact ih _
theorem He (x:Expr):x.dep≤1500000→(1≤bG x∧bG x≤x.dep)∧bG x=bG.L1 bG (fun g=>g) x.L 0+1:=by
 refine Expr.ind (P:=fun x=>x.dep≤1500000→(1≤bG x∧bG x≤x.dep)∧bG x=bG.L1 bG (fun g=>g) x.L 0+1) ?_ x
 intro x ih hx
 obtain ⟨i1,i2,i3⟩:=depthL x.L 0
 have hp:=Expr.j1 x
 have h3:=i3 ((x.dep:Int) - 1) (by omega) fun y hy=>by
  have h4:=Expr.iv hy
  have:=(ih y hy (by omega)).1.2
  omega
 have e:bG x=bG.L1 bG (fun g=>g) x.L 0+1:=by
  rw [Hx]
  unfold bG.F
  rw [depthK,wrap64 (by omega)]
 exact ⟨by omega,e⟩
theorem CR (x:Expr):x.dep≤1500000→∀ (d D:Int),bG x≤D→∀ z∈bZ x d,z.depth≤d+D - 1:=by
 refine Expr.ind (P:=fun x=>x.dep≤1500000→∀ (d D:Int),bG x≤D→∀ z∈bZ x d,z.depth≤d+D - 1) ?_ x
 intro x ih hx d D hD z hz
 obtain ⟨h1,h2⟩:=He x hx
 rw [lE] at hz
 rcases List.mem_cons.1 hz with rfl | hz
 ·show d≤d+D - 1;omega
 ·obtain ⟨y,hy,hz⟩:=List.mem_flatMap.1 hz
  have h4:=Expr.iv hy
  have h5:=(depthL x.L 0).2.1 y hy
  have:=ih y hy (by omega) (d+1) (D - 1) (by omega) z hz
  omega
theorem Hu (x:Expr):cN x=cN.F cN x:=by
 refine uW cN.F cN.go (fun m=>rfl) (fun f g x h=>?_) x
 funext limit
 unfold cN.F
 have:∀ (k:Int→Int) (l:List Expr) a,(∀ y∈l,f y=g y)→cN.L1 f limit k l a=cN.L1 g limit k l a:=by
  intro k l
  induction l with
  | nil=>intros;rfl
  | cons y l ih=>
   intro a hl
   simp only [cN.L1,hl y (List.mem_cons_self ..)]
   rw [ih _ fun z hz=>hl z (List.mem_cons_of_mem _ hz)]
 exact this _ _ _ h
def cnt (x:Expr):Nat:=(bZ x 1).length
theorem I7 (x:Expr):∀ d,(bZ x d).length=cnt x:=by
 refine Expr.ind (P:=fun x=>∀ d,(bZ x d).length=cnt x) ?_ x
 intro x ih d
 unfold cnt
 rw [lE,lE x 1,List.length_cons,List.length_cons,List.length_flatMap,List.length_flatMap]
 congr 2
 apply List.map_congr_left
 intro y hy
 rw [ih y hy,ih y hy]
theorem Hi (x:Expr):cnt x=1+(x.L.map cnt).sum:=by
 conv=>lhs;unfold cnt
 rw [lE,List.length_cons,List.length_flatMap,Nat.add_comm]
 congr 2
 apply List.map_congr_left
 intro y hy
 exact I7 y _
theorem Fq (x:Expr):∀ limit:Int,0≤limit→limit≤256→cN x limit=min (cnt x:Int) (limit+1):=by
 refine Expr.ind (P:=fun x=>∀ limit:Int,0≤limit→limit≤256→cN x limit=min (cnt x:Int) (limit+1)) ?_ x
 intro x ih limit h0 h1
 rw [Hu,Hi]
 unfold cN.F
 have key:∀ (l:List Expr) (a:Int),(∀ y∈l,y∈x.L)→1≤a→a≤limit+1→cN.L1 cN limit cN.K1 l a=min (a+((l.map cnt).sum:Nat)) (limit+1):=by
  intro l
  induction l with
  | nil=>intro a _ _ ha;simp only [cN.L1,cN.K1,List.map_nil,List.sum_nil];omega
  | cons y l ih2=>
   intro a hl h2 h3
   simp only [cN.L1,Bool.cond_eq_ite,decide_eq_true_eq,List.map_cons,List.sum_cons]
   by_cases ha:a≤limit
   ·rw [if_pos ha,wrap64 (z:=limit - a) (by omega),ih y (hl y (List.mem_cons_self ..)) (limit - a) (by omega) (by omega)]
    have hc:1≤cnt y:=by rw [Hi];omega
    rw [wrap64 (by omega),ih2 _ (fun z hz=>hl z (List.mem_cons_of_mem _ hz)) (by omega) (by omega)]
    omega
   ·rw [if_neg ha]
    simp only [cN.K1]
    omega
 rw [key x.L 1 (fun y hy=>hy) (by omega) (by omega)]
 omega
theorem Cd {x:Expr} (hx:x.dep≤1500000) (h:jm x=false):(bZ x 1).length≤256∧∀ z∈bZ x 1,z.depth≤16:=by
 simp only [jm,Bool.or_eq_false_iff,decide_eq_false_iff_not] at h
 have h1:=Fq x 256 (by decide) (by decide)
 have h2:=CR x hx 1 16 (by omega)
 refine ⟨?_,fun z hz=>by have:=h2 z hz;omega⟩
 show cnt x≤256
 omega
end Go.Sg
namespace Go.Sg
set_option linter.unusedVariables false
set_option linter.unusedSimpArgs false
theorem vk (s:ByteArray):∀ (m i:Nat) (r:List UInt8),s.size - i=m→(ByteArray.toList.loop s i r).length=r.length+m
 | 0,i,r,h=>by rw [ByteArray.toList.loop];rw [if_neg (by omega)];simp
 | m+1,i,r,h=>by
  rw [ByteArray.toList.loop,if_pos (by omega),vk s m (i+1) _ (by omega),List.length_cons]
  omega
theorem wI (s:ByteArray):s.toList.length=s.size:=by
 have:=vk s s.size 0 [] (by omega)
 simpa [ByteArray.toList] using this
theorem H6 {α : Type} (c:Bool) (a b d:α):(bif c then (bif c then a else b) else d)=bif c then a else d:=by cases c <;> rfl
theorem IM (c x:Bool):(bif c then false else x)=(!c&&x):=by cases c <;> rfl
theorem IL (c x:Bool):(bif c then true else x)=(c||x):=by cases c <;> simp
theorem Fi (s:ByteArray):de s=(cK s&&!(kB s)):=by
 unfold de kB
 simp only [H6]
 simp only [IM,IL,Bool.not_or,Bool.or_false]
 ac_rfl
theorem AX (c:Int):(gz c != 2)=!(gS c):=by
 unfold gz gS
 cases ((decide (97≤c)&&decide (c≤122))||(decide (65≤c)&&decide (c≤90))) <;> cases (decide (48≤c)&&decide (c≤57)) <;> cases (c==95) <;> cases ((((c==32)||(c==9))||(c==10))||(c==13)) <;> cases (decide (0≤(strings_IndexByte (⟨#[123,125,40,41,59,44,61,58,46,60,62,33,43,45,42,47]⟩:ByteArray) c))) <;> rfl
theorem DU (c:Int):(((gz c != 2)&&(gz c != 3))&&(gz c != 5))=!(lT c):=by
 unfold gz lT gS jE
 cases ((decide (97≤c)&&decide (c≤122))||(decide (65≤c)&&decide (c≤90))) <;> cases (decide (48≤c)&&decide (c≤57)) <;> cases (c==95) <;> cases ((((c==32)||(c==9))||(c==10))||(c==13)) <;> cases (decide (0≤(strings_IndexByte (⟨#[123,125,40,41,59,44,61,58,46,60,62,33,43,45,42,47]⟩:ByteArray) c))) <;> rfl
theorem Ew (s:ByteArray):∀ (l:List Nat) (i:Nat),cK.L1 s cK.K1 l i=fW.L1 s fW.K1 l i
 | [],i=>rfl
 | y::l,i=>by simp only [cK.L1,fW.L1,DU,Ew s l]
theorem HX {s:ByteArray} (h:fW s=true):cK s=true:=by
 unfold fW at h
 unfold cK
 rw [AX,Ew]
 rw [Bool.cond_eq_ite] at h ⊢
 split at h
 ·cases h
 ·next hc=>
  simp only [Bool.or_eq_true,not_or,decide_eq_true_eq] at hc
  obtain ⟨⟨h1,h2⟩,h3⟩:=hc
  have e:(s.toList==(⟨#[]⟩:ByteArray).toList)=false:=by
   rw [Bool.eq_false_iff]
   intro he
   have he:=eq_of_beq he
   have h9:=wI s
   rw [he,wI] at h9
   have:(⟨#[]⟩:ByteArray).size=0:=rfl
   omega
  rw [e,if_neg]
  ·exact h
  ·simp only [Bool.false_or,Bool.or_eq_true,not_or,decide_eq_true_eq]
   exact ⟨h2,h3⟩
theorem EK {s:ByteArray} (h:jz s=true):de s=true:=by
 simp only [jz,Bool.and_eq_true] at h
 rw [Fi,HX h.1,h.2];rfl
theorem zB (s:ByteArray):∀ (l:List ByteArray) (i:Nat),dl.L1 s dl.K1 l i=aN.L1 s aN.K1 l i
 | [],i=>rfl
 | y::l,i=>by
  have:(y.toList==s.toList)=(s.toList==y.toList):=by rw [Bool.eq_iff_iff,beq_iff_eq,beq_iff_eq];exact eq_comm
  simp only [dl.L1,aN.L1,this,zB s l]
theorem rindex (l:List ByteArray) (s:ByteArray):dl l s=aN l s:=zB s l 0
theorem vN {l:List ByteArray} (h:dS l=true):bD l de=true:=by
 have key:∀ (L l:List ByteArray) (i:Nat),dS.L1 L dS.K1 l i=true→bD.L1 L de bD.K1 l i=true:=by
  intro L l
  induction l with
  | nil=>intros;rfl
  | cons y l ih=>
   intro i h
   simp only [dS.L1,Bool.cond_eq_ite] at h
   split at h
   ·cases h
   ·next hc=>
    simp only [Bool.or_eq_true,not_or,Bool.not_eq_true',Bool.not_eq_false,Bool.not_eq_true] at hc
    simp only [bD.L1,EK hc.1,← rindex,hc.2,Bool.not_true,Bool.or_self,cond_false]
    exact ih _ h
 exact key l l 0 h
theorem oP (off:List ByteArray) {f g:List ByteArray→Expr→Bool} (k:Bool):∀ (l:List Expr),(∀ y∈l,f off y=g off y)→ce.L1 f off k l=ce.L1 g off k l
 | [],_=>rfl
 | y::l,h=>by simp only [ce.L1,h y (List.mem_cons_self ..),oP off k l fun z hz=>h z (List.mem_cons_of_mem _ hz)]
theorem GD (off:List ByteArray) (x:Expr):ce off x=ce.F ce off x:=by
 have:=uW (fun f x=>ce.F (fun _ y=>f y) off x) (fun m x=>ce.go m off x) (fun m=>?_) (fun f g x h=>?_) x
 ·refine Eq.trans this ?_
  show ce.F _ off x=_
  unfold ce.F
  rw [oP off (f:=fun _ y=>ce.go y.dep off y) (g:=ce) _ x.L fun y hy=>rfl]
 ·funext x
  show ce.F (ce.go m) off x=ce.F _ off x
  unfold ce.F
  rw [oP off (f:=ce.go m) (g:=fun _ y=>ce.go m off y) _ x.L fun y hy=>rfl]
 ·show ce.F _ off x=ce.F _ off x
  unfold ce.F
  rw [oP off (f:=fun _ y=>f y) (g:=fun _ y=>g y) _ x.L h]
theorem zO (off:List ByteArray):∀ (l:List Expr),ce.L1 ce off ce.K1 l=true→∀ y∈l,ce off y=true
 | [],_=>fun _ h=>(List.not_mem_nil h).elim
 | y::l,h=>by
  simp only [ce.L1,Bool.cond_eq_ite] at h
  split at h
  ·cases h
  ·next hc=>
   intro z hz
   rcases List.mem_cons.1 hz with rfl | hz
   ·simpa using hc
   ·exact zO off l h z hz
theorem B4 (off:List ByteArray) (x:Expr):ce off x=true→∀ d,∀ z∈bZ x d,((!(cX z.x))||dw off z.x.Name)=true:=by
 refine Expr.ind (P:=fun x=>ce off x=true→∀ d,∀ z∈bZ x d,((!(cX z.x))||dw off z.x.Name)=true) ?_ x
 intro x ih h d z hz
 rw [GD] at h
 unfold ce.F at h
 rw [Bool.cond_eq_ite] at h
 split at h
 ·cases h
 ·next hc=>
  rw [lE] at hz
  rcases List.mem_cons.1 hz with rfl | hz
  ·show ((!(cX x))||dw off x.Name)=true
   unfold dw cX
   rw [rindex] at hc
   by_cases h2:aN off x.Name < 0
   ·have:decide (aN off x.Name < 0)=true:=by simpa using h2
    rw [this,Bool.and_true] at hc
    simp only [Bool.not_eq_true] at hc
    rw [hc];rfl
   ·have:decide (0≤aN off x.Name)=true:=by simp;omega
    rw [this,Bool.or_true]
  ·obtain ⟨y,hy,hz⟩:=List.mem_flatMap.1 hz
   exact ih y hy (zO off x.L h y hy) (d+1) z hz
end Go.Sg
namespace Go.Sg
set_option linter.unusedVariables false
set_option linter.unusedSimpArgs false
theorem nC (u:Bool) {f g:Expr→Bool→Bool} (k:Bool):∀ (l:List Expr),(∀ y∈l,f y u=g y u)→aQ.L1 f u k l=aQ.L1 g u k l
 | [],_=>rfl
 | y::l,h=>by simp only [aQ.L1,h y (List.mem_cons_self ..),nC u k l fun z hz=>h z (List.mem_cons_of_mem _ hz)]
theorem Fj (x:Expr) (u:Bool):aQ x u=aQ.F aQ x u:=by
 have:=uW (fun f x=>aQ.F (fun y _=>f y) x u) (fun m x=>aQ.go m x u) (fun m=>?_) (fun f g x h=>?_) x
 ·refine Eq.trans this ?_
  show aQ.F _ x u=_
  unfold aQ.F
  rw [nC u (f:=fun y _=>aQ.go y.dep y u) (g:=aQ) _ x.L fun y hy=>rfl]
 ·funext x
  show aQ.F (aQ.go m) x u=aQ.F _ x u
  unfold aQ.F
  rw [nC u (f:=aQ.go m) (g:=fun y _=>aQ.go m y u) _ x.L fun y hy=>rfl]
 ·show aQ.F _ x u=aQ.F _ x u
  unfold aQ.F
  rw [nC u (f:=fun y _=>f y) (g:=fun y _=>g y) _ x.L h]
theorem yi (u k:Bool):∀ (l:List Expr),aQ.L1 aQ u k l=true→(∀ y∈l,aQ y u=true)∧k=true
 | [],h=>⟨fun _ h=>(List.not_mem_nil h).elim,h⟩
 | y::l,h=>by
  simp only [aQ.L1,Bool.cond_eq_ite] at h
  split at h
  ·cases h
  ·next hc=>
   obtain ⟨h1,h2⟩:=yi u k l h
   refine ⟨fun z hz=>?_,h2⟩
   rcases List.mem_cons.1 hz with rfl | hz
   ·simpa using hc
   ·exact h1 z hz
theorem Fk {x:Expr} {u:Bool} (h:aQ.K1 x u=true):(aO x.Kind 1 4&&kindsP x.Kind x)=true∧(u=false→x.Kind≠4):=by
 unfold aQ.K1 at h
 simp only [Bool.cond_eq_ite,beq_iff_eq] at h
 split at h
 ·next e=>
  rw [e]
  refine ⟨?_,fun _=>by decide⟩
  show (_&&jJ x)=true
  unfold jJ
  rw [h];rfl
 ·split at h
  ·next e=>
   rw [e]
   refine ⟨?_,fun _=>by decide⟩
   show (_&&jI x)=true
   unfold jI aO
   rw [h];rfl
  ·split at h
   ·next e=>
    rw [e]
    refine ⟨?_,fun _=>by decide⟩
    show (_&&jH x)=true
    unfold jH aO
    simp only [Bool.and_eq_true] at h ⊢
    exact ⟨⟨rfl,rfl⟩,⟨h.1.1.1.1,h.1.1.1.2,h.1.1.2⟩,h.1.2,h.2⟩
   ·split at h
    ·next e=>
     rw [e]
     simp only [Bool.and_eq_true] at h
     refine ⟨?_,fun hu=>by rw [hu] at h;simp at h⟩
     show (_&&ja x)=true
     unfold ja aO
     simp only [Bool.and_eq_true]
     exact ⟨⟨rfl,rfl⟩,⟨h.1.1.1.2,h.1.1.2⟩,h.1.2,h.2⟩
    ·cases h
theorem Ab (u:Bool) (x:Expr):aQ x u=true→∀ d,∀ z∈bZ x d,(aO z.x.Kind 1 4&&kindsP z.x.Kind z.x)=true∧(u=false→z.x.Kind≠4):=by
 refine Expr.ind (P:=fun x=>aQ x u=true→∀ d,∀ z∈bZ x d,(aO z.x.Kind 1 4&&kindsP z.x.Kind z.x)=true∧(u=false→z.x.Kind≠4)) ?_ x
 intro x ih h d z hz
 rw [Fj] at h
 obtain ⟨h1,h2⟩:=yi u _ x.L h
 rw [lE] at hz
 rcases List.mem_cons.1 hz with rfl | hz
 ·exact Fk h2
 ·obtain ⟨y,hy,hz⟩:=List.mem_flatMap.1 hz
  exact ih y hy (h1 y hy) (d+1) z hz
end Go.Sg
namespace Go.Sg
set_option linter.unusedVariables false
set_option linter.unusedSimpArgs false
theorem rl1 (rec:List ByteArray→Expr→Expr) (off:List ByteArray) (k:List Expr→Expr):∀ (l g:List Expr),aj.L1 rec off k l g=k (g++l.map (rec off))
 | [],g=>by simp [aj.L1]
 | y::l,g=>by simp [aj.L1,rl1 rec off k l]
theorem rl2 (rec:List ByteArray→Expr→Expr) (off:List ByteArray) (k:List Expr→Expr):∀ (l g:List Expr),aj.L2 rec off k l g=k (g++l.map (rec off))
 | [],g=>by simp [aj.L2]
 | y::l,g=>by simp [aj.L2,rl2 rec off k l]
def rno (off:List ByteArray) (x:Expr):Int:=bif cX x then aN off x.Name else 0
theorem DJ (rec:List ByteArray→Expr→Expr) (off:List ByteArray) (x:Expr):aj.F rec off x=Expr.mk x.Kind x.N (rno off x) x.Name (x.L.map (rec off)):=by
 unfold aj.F rno cX
 cases ((x.Kind==1)||(x.Kind==2))
 ·rw [cond_false,rl2];rfl
 ·rw [cond_true,rl1];unfold aj.K1;rw [rindex];rfl
theorem BN (off:List ByteArray) (x:Expr):aj off x=Expr.mk x.Kind x.N (rno off x) x.Name (x.L.map (aj off)):=by
 have:=uW (fun f x=>Expr.mk x.Kind x.N (rno off x) x.Name (x.L.map f)) (fun m x=>aj.go m off x) (fun m=>?_) (fun f g x h=>?_) x
 ·exact this
 ·funext x
  show aj.F (aj.go m) off x=_
  rw [DJ]
 ·show Expr.mk _ _ _ _ _=Expr.mk _ _ _ _ _
  rw [List.map_congr_left h]
theorem wR (b:Expr) {f g:Expr→Expr→Bool} (k:Bool):∀ (l:List Expr) (i:Nat),(∀ y∈l,f y=g y)→bK.L1 f b k l i=bK.L1 g b k l i
 | [],_,_=>rfl
 | y::l,i,h=>by simp only [bK.L1,h y (List.mem_cons_self ..),wR b k l (i+1) fun z hz=>h z (List.mem_cons_of_mem _ hz)]
theorem HO (x:Expr):bK x=bK.F bK x:=by
 refine uW bK.F bK.go (fun m=>rfl) (fun f g x h=>?_) x
 funext b
 unfold bK.F
 rw [wR b _ x.L 0 h]
theorem Ep (b:Expr):∀ (l:List Expr) (i:Nat),bK.L1 bK b bK.K1 l i=true→∀ (j:Nat) (y:Expr),l[j]? = some y→bK y (nthI b.L ((i+j:Nat):Int))=true
 | [],_,_,j,y,hj=>by simp at hj
 | z::l,i,h,j,y,hj=>by
  simp only [bK.L1,Bool.cond_eq_ite] at h
  split at h
  ·cases h
  ·next hc=>
   cases j with
   | zero=>simp at hj;subst hj;simpa using hc
   | succ j=>have:=Ep b l (i+1) h j y (by simpa using hj);rw [show i+(j+1)=i+1+j from by omega];exact this
theorem HN (off:List ByteArray) (x:Expr):bK (aj off x) x=true→∀ d,∀ z∈bZ x d,z.x.No=rno off z.x:=by
 refine Expr.ind (P:=fun x=>bK (aj off x) x=true→∀ d,∀ z∈bZ x d,z.x.No=rno off z.x) ?_ x
 intro x ih h d z hz
 rw [HO,BN] at h
 unfold bK.F at h
 rw [Bool.cond_eq_ite] at h
 split at h
 ·cases h
 ·next hc=>
  simp only [Bool.or_eq_true,not_or,bne_iff_ne,ne_eq,Classical.not_not] at hc
  have hno:rno off x=x.No:=hc.1.1.2
  rw [lE] at hz
  rcases List.mem_cons.1 hz with rfl | hz
  ·exact hno.symm
  ·obtain ⟨y,hy,hz⟩:=List.mem_flatMap.1 hz
   obtain ⟨j,hj⟩:=List.getElem?_of_mem hy
   have h2:=Ep x _ 0 h j (aj off y) (by show (List.map (aj off) x.L)[j]? = _;rw [List.getElem?_map,hj];rfl)
   have hlt:=(List.getElem?_eq_some_iff.1 hj).1
   have hg:=eN (xs:=x.L) (z:=((0+j:Nat):Int)) (by omega)
   rw [show (((0+j:Nat):Int)).toNat=j from by omega,hj] at hg
   rw [← Option.some.inj hg] at h2
   exact ih y hy h2 (d+1) z hz
theorem vt {off:List ByteArray} {x:Expr} (h:bK (aj off x) x=true):bX off x=true:=by
 unfold bX bX.K1
 rw [oE]
 exact HN off x h 1
end Go.Sg
namespace Go.Sg
set_option linter.unusedVariables false
set_option linter.unusedSimpArgs false
def rrules (off:List ByteArray):List Rule→Nat→List Rule
 | [],_=>[]
 | y::l,i=>Rule.mk y.Kind ((i:Nat):Int) y.Think (aj off y.Expr)::rrules off l (i+1)
theorem wY (off:List ByteArray):∀ (l:List Rule) (i j:Nat) (y:Rule),l[j]? = some y→(rrules off l i)[j]? = some (Rule.mk y.Kind ((i+j:Nat):Int) y.Think (aj off y.Expr))
 | [],_,j,y,h=>by simp at h
 | z::l,i,0,y,h=>by simp at h;subst h;rfl
 | z::l,i,j+1,y,h=>by
  have:=wY off l (i+1) j y (by simpa using h)
  rw [show i+(j+1)=i+1+j from by omega]
  exact this
theorem yE (p:Policy):∀ (l:List Rule) (i:Nat) (g:List Rule),di.L1 p (di.K1 p) l i g=(Policy.mk p.Name p.Kinds p.Offices (g++rrules p.Offices l i) (aj p.Offices p.Change) p.Mode,0)
 | [],i,g=>by
  simp only [di.L1,di.K1,rrules,List.append_nil,Expr.eta]
 | y::l,i,g=>by
  simp only [di.L1,yE p l,rrules,Expr.eta,List.append_assoc,List.singleton_append]
theorem ET (b:Policy):∀ (l:List Rule) (i:Nat),gA.L1 b gA.K1 l i=true→∀ (j:Nat) (y:Rule),l[j]? = some y→y.KindNo=(nthI b.Rules ((i+j:Nat):Int)).KindNo∧bK y.Expr (nthI b.Rules ((i+j:Nat):Int)).Expr=true
 | [],_,_,j,y,hj=>by simp at hj
 | z::l,i,h,j,y,hj=>by
  simp only [gA.L1,Bool.cond_eq_ite] at h
  split at h
  ·cases h
  ·next hc=>
   simp only [Bool.or_eq_true,not_or,bne_iff_ne,ne_eq,Classical.not_not,Bool.not_eq_true',Bool.not_eq_false] at hc
   cases j with
   | zero=>simp at hj;subst hj;exact ⟨hc.1.1.2,hc.2⟩
   | succ j=>have:=ET b l (i+1) h j y (by simpa using hj);rw [show i+(j+1)=i+1+j from by omega];exact this
theorem zN (p:Policy) (k:Bool):∀ (l:List Rule),f3.L1 p k l=true→(∀ r∈l,ce p.Offices r.Expr=true)∧k=true
 | [],h=>⟨fun _ h=>(List.not_mem_nil h).elim,h⟩
 | y::l,h=>by
  simp only [f3.L1,Bool.cond_eq_ite] at h
  split at h
  ·cases h
  ·next hc=>
   obtain ⟨h1,h2⟩:=zN p k l h
   refine ⟨fun z hz=>?_,h2⟩
   rcases List.mem_cons.1 hz with rfl | hz
   ·simpa using hc
   ·exact h1 z hz
theorem Ce (k:Bool):∀ (l:List Rule),e6.L1 k l=false→∀ r∈l,jm r.Expr=false
 | [],_=>fun _ h=>(List.not_mem_nil h).elim
 | y::l,h=>by
  simp only [e6.L1,Bool.cond_eq_ite] at h
  split at h
  ·cases h
  ·next hc=>
   intro z hz
   rcases List.mem_cons.1 hz with rfl | hz
   ·simpa using hc
   ·exact Ce k l h z hz
theorem yj (p:Policy) (k:Bool):∀ (l:List Rule) (i:Nat),fD.L1 p k l i=true→(∀ (j:Nat) r,l[j]? = some r→((r.Kind.toList==(nthI p.Kinds (((i+j:Nat):Int))).toList)=true∧0≤r.Think∧r.Think < 1099511627776)∧aQ r.Expr true=true)∧k=true
 | [],i,h=>⟨fun j r hj=>by simp at hj,h⟩
 | y::l,i,h=>by
  simp only [fD.L1,Bool.cond_eq_ite] at h
  split at h
  ·cases h
  ·next hc=>
   simp only [Bool.or_eq_true,not_or,decide_eq_true_eq,Bool.not_eq_true',Bool.not_eq_false] at hc
   obtain ⟨h1,h2⟩:=yj p k l (i+1) h
   refine ⟨fun j r hj=>?_,h2⟩
   cases j with
   | zero=>simp at hj;subst hj;exact ⟨⟨hc.1.1.1,by omega,by omega⟩,hc.2⟩
   | succ j=>have:=h1 j r (by simpa using hj);rw [show i+(j+1)=i+1+j from by omega];exact this
theorem Hj {p:Policy} (hs:smP p) (h:fF p=0):cy p=0:=by
 unfold fF at h
 rw [Bool.cond_eq_ite] at h
 split at h
 ·next hc=>exact absurd h (by simpa using hc)
 ·next hR=>
  rw [Bool.cond_eq_ite] at h
  split at h
  ·omega
  ·next hS=>
   simp only [Bool.not_eq_true',Bool.not_eq_false] at hS
   unfold di at hR hS
   cases hl:e6 p with
   | true=>rw [hl] at hR;simp at hR
   | false=>
    rw [hl] at hR hS
    cases hn:f3 p with
    | false=>rw [hn] at hR;simp at hR
    | true=>
     rw [hn] at hR hS
     cases hf:fD p with
     | false=>rw [hf] at hR;simp at hR
     | true=>
      rw [hf] at hS
      simp only [Bool.not_true,cond_false,yE,List.nil_append] at hS
      clear hR h
      unfold e6 at hl
      rw [Bool.cond_eq_ite] at hl
      split at hl
      ·cases hl
      ·next h1=>
       simp only [Bool.or_eq_true,not_or,decide_eq_true_eq,Bool.not_eq_true] at h1
       have h2:=Ce _ _ hl
       unfold f3 at hn
       rw [Bool.cond_eq_ite] at hn
       split at hn
       ·cases hn
       ·next h3=>
        simp only [Bool.or_eq_true,not_or,Bool.not_eq_true',Bool.not_eq_false] at h3
        obtain ⟨h4,h5⟩:=zN p _ _ hn
        unfold fD at hf
        rw [Bool.cond_eq_ite] at hf
        split at hf
        ·cases hf
        ·next h6=>
         simp only [Bool.or_eq_true,not_or,decide_eq_true_eq,bne_iff_ne,ne_eq,Classical.not_not] at h6
         obtain ⟨h7,h8⟩:=yj p _ _ 0 hf
         unfold gA at hS
         rw [Bool.cond_eq_ite] at hS
         split at hS
         ·cases hS
         ·next h9=>
          simp only [Bool.or_eq_true,not_or,Bool.not_eq_true',Bool.not_eq_false] at h9
          have h10:=ET p _ 0 hS
          have hexp:∀ x,x∈aC p→(∃ r∈p.Rules,r.Expr=x)∨x=p.Change:=by
           intro x hx
           rw [pJ] at hx
           simp only [List.mem_append,List.mem_map,List.mem_singleton] at hx
           exact hx
          rw [yx,qY,wP,BZ]
          refine ⟨⟨⟨⟨by omega,by omega,by omega⟩,fun x hx=>?_⟩,⟨⟨EK h3.1.1,vN h3.1.2,vN h3.2⟩,fun x hx=>?_⟩,?_⟩,fun j r hj=>?_,vt h9.2⟩
          ·rcases hexp x hx with ⟨r,hr,rfl⟩ | rfl
           ·exact Cd (hs.2.1 r hr) (h2 r hr)
           ·exact Cd hs.2.2.1 h1.2
          ·rcases hexp x hx with ⟨r,hr,rfl⟩ | rfl
           ·exact B4 p.Offices _ (h4 r hr) 1
           ·exact B4 p.Offices _ h5 1
          ·unfold bC bC.K1 bC.K2
           rw [nz,wo,AO]
           refine ⟨?_,fun j r hj=>?_,fun j x hj z hz=>?_⟩
           ·simp only [Bool.and_eq_true,decide_eq_true_eq,beq_iff_eq,aO]
            exact ⟨⟨by omega,h6.1.1.2⟩,by omega,by omega⟩
           ·have:=(h7 j r hj).1
            simp only [Bool.and_eq_true,decide_eq_true_eq,aO]
            exact ⟨this.1,this.2.1,by omega⟩
           ·have hlen:(aC p).length=p.Rules.length+1:=by rw [pJ];simp
            rw [pJ] at hj
            rcases Nat.lt_or_ge j p.Rules.length with hjl | hjl
            ·rw [List.getElem?_append_left (by simpa using hjl),List.getElem?_map] at hj
             obtain ⟨r,hr,rfl⟩:=Option.map_eq_some_iff.1 hj
             refine ⟨(Ab true _ (h7 j r hr).2 1 z hz).1,?_⟩
             rw [hlen,wrap64 (by omega)]
             have:decide (((0+j:Nat):Int) < ((p.Rules.length+1:Nat):Int) - 1)=true:=by rw [decide_eq_true_eq];omega
             rw [this];rfl
            ·rw [List.getElem?_append_right (by simpa using hjl)] at hj
             have hj2:=List.mem_singleton.1 (List.mem_of_getElem? hj)
             subst hj2
             obtain ⟨k1,k2⟩:=Ab false _ h8 1 z hz
             refine ⟨k1,?_⟩
             have:(z.x.Kind != 4)=true:=by simpa using k2 rfl
             rw [this,Bool.or_true]
          ·have h11:=h10 j _ (wY p.Offices p.Rules 0 j r hj)
           have hlt:=(List.getElem?_eq_some_iff.1 hj).1
           have hg:=eN (xs:=p.Rules) (z:=((0+j:Nat):Int)) (by omega)
           rw [show (((0+j:Nat):Int)).toNat=j from by omega,hj] at hg
           rw [← Option.some.inj hg] at h11
           dsimp only at h11
           exact ⟨by rw [← h11.1];simp,vt h11.2⟩
end Go.Sg
namespace Go.Sg
set_option linter.unusedVariables false
set_option linter.unusedSimpArgs false
def Hv (v:Version):Prop:=(0≤v.No∧v.No≤1048576)∧(0≤v.At∧v.At < 1099511627776)∧(0≤v.Known∧v.Known < 1099511627776)∧fF v.Policy=0
theorem EN {L:List Version} {y:Version} {l:List Version} {i:Nat} (h:dz.L1 L dz.K1 (y::l) i=0):Hv y∧(0 < i→(nthI L (((i:Nat):Int) - 1)).No < y.No)∧dz.L1 L dz.K1 l (i+1)=0:=by
 simp only [dz.L1,Bool.cond_eq_ite] at h
 split at h
 ·omega
 ·next hc=>
  simp only [Bool.or_eq_true,not_or,decide_eq_true_eq,Bool.and_eq_true,Bool.not_eq_true',Bool.not_eq_false,bne_iff_ne,ne_eq,Classical.not_not,dY] at hc
  obtain ⟨⟨⟨⟨h1,h2⟩,h3⟩,h4⟩,h5⟩:=hc
  exact ⟨⟨by omega,h3,h4,h5⟩,fun hi=>by omega,h⟩
theorem EO (L:List Version):∀ (l pre:List Version) (x:Version),L=(pre++[x])++l→dz.L1 L dz.K1 l (pre.length+1)=0→(∀ y∈l,Hv y)∧(x::l).Pairwise (fun a b=>a.No < b.No)
 | [],_,_,_,_=>⟨fun _ h=>(List.not_mem_nil h).elim,by simp⟩
 | y::l,pre,x,h,hr=>by
  have hx:nthI L (((pre.length+1:Nat):Int) - 1)=x:=by
   have hb:0≤(((pre.length+1:Nat):Int) - 1)∧(((pre.length+1:Nat):Int) - 1) < (L.length:Int):=by rw [h];simp;omega
   have hg:=eN hb
   rw [show ((((pre.length+1:Nat):Int) - 1)).toNat=pre.length from by omega,h] at hg
   rw [h];simpa using hg.symm
  obtain ⟨h1,h2,h3⟩:=EN hr
  have h2:=h2 (by omega)
  rw [hx] at h2
  have ih:=EO L l (pre++[x]) y (by rw [h];simp)
  rw [List.length_append,List.length_cons,List.length_nil,Nat.zero_add] at ih
  obtain ⟨i1,i2⟩:=ih h3
  refine ⟨fun z hz=>?_,List.pairwise_cons.2 ⟨fun z hz=>?_,i2⟩⟩
  ·rcases List.mem_cons.1 hz with rfl | hz
   ·exact h1
   ·exact i1 z hz
  ·rcases List.mem_cons.1 hz with rfl | hz
   ·exact h2
   ·have:=(List.pairwise_cons.1 i2).1 z hz;omega
theorem CY {l:List Version} (hs:smV l) (h:dz l=0):br l=0:=by
 rw [kw]
 unfold dz at h
 rw [Bool.cond_eq_ite] at h
 split at h
 ·omega
 ·next hl=>
  simp only [decide_eq_true_eq] at hl
  have key:(∀ y∈l,Hv y)∧l.Pairwise (fun a b=>a.No < b.No):=by
   cases l with
   | nil=>exact ⟨fun _ h=>(List.not_mem_nil h).elim,List.Pairwise.nil⟩
   | cons y l=>
    obtain ⟨h1,_,h3⟩:=EN h
    obtain ⟨i1,i2⟩:=EO (y::l) l [] y rfl h3
    refine ⟨fun z hz=>?_,i2⟩
    rcases List.mem_cons.1 hz with rfl | hz
    ·exact h1
    ·exact i1 z hz
  refine ⟨by omega,fun v hv=>?_,key.2⟩
  have:=key.1 v hv
  obtain ⟨h1,h2,h3,h4⟩:=this
  exact ⟨by omega,by omega,h1,Hj (hs.2 v hv) h4⟩
end Go.Sg
namespace Go.Sg
set_option linter.unusedVariables false
set_option linter.unusedSimpArgs false
theorem wJ {r:Register} {doc:Int} {who:List Int} {known:Int} (hj:fa r=0) (hD:0≤dv r doc) (hk:0≤known∧known < 1099511627776) (hp:(∀ x∈who,0≤x∧x < 64)∧who.Pairwise (· < ·)):
  ∃ s,aW r doc who known=(s,0)∧yI (bn ⟨r,nthI r.Docs (dv r doc),known⟩ who) s 1099511627776:=by
 obtain ⟨d1,d2,d3,d4,d5,d6,d7⟩:=(rD r).1 hj
 obtain ⟨hd1,hd2,hd3⟩:=Er hD
 have hd:=Ac d6 _ hd2
 have hv:=(kw r.Versions).1 d5
 have hask:=IP (r:=r) (doc:=doc) (known:=known) hD hk
 have c1:=(vz r.Appoints).symm.trans d1
 have c3:=(sS r.Interests).symm.trans d3
 generalize hdd:nthI r.Docs (dv r doc)=d at *
 refine ⟨(aE ⟨r,d,known⟩).foldl (stepT (bn ⟨r,d,known⟩ who)) [],?_,?_⟩
 ·unfold aW
  rw [hj,yD,hask,DW hp]
  rfl
 ·refine Cn (fun x hx=>?_) fun a b h0 hab hs=>AU who hd.Il hd.kind.1 h0 hab hs
  rcases hx with rfl | rfl | rfl | ⟨a,ha,rfl⟩ | ⟨a,ha,rfl⟩ | ⟨v,hvm,rfl | ⟨y,hy,rfl⟩⟩
  ·exact Int.le_refl _
  ·exact hd.at_.1
  ·have:=hd.eo;show 0≤d.Until;omega
  ·exact IK c1 a ha
  ·exact IJ c3 a ha
  ·exact (hv.each v hvm).1.1
  ·have h1:=((hv.okV.2 v hvm).2 y hy).1
   have h2:=hd.at_.1
   show 0≤d.At+y.Think;omega
theorem xq:∀ (a:List Span) (c t:Int),okS a c→t≤c→inS a t=false
 | [],c,t,_,_=>rfl
 | x::a,c,t,⟨h1,h2,h3,h4⟩,ht=>by
  have ih:=xq a x.Until t h4 (by omega)
  have:decide (x.From≤t)=false:=by simp;omega
  simp only [inS,List.any_cons,this,Bool.false_and,Bool.false_or] at ih ⊢
  exact ih
theorem Et:∀ (a:List Span) (c:Int),okS a c→∀ x∈a,c < x.From∧x.From < x.Until∧x.Until≤1099511627776
 | [],_,_=>fun _ h=>(List.not_mem_nil h).elim
 | y::a,c,⟨h1,h2,h3,h4⟩=>fun x hx=>by
  rcases List.mem_cons.1 hx with rfl | hx
  ·exact ⟨h1,h2,h3⟩
  ·have:=Et a y.Until h4 x hx;omega
theorem rG {s:List Span} {x:Span} (h:x∈s) {t:Int} (h1:x.From≤t) (h2:t < x.Until):inS s t=true:=
 List.any_eq_true.2 ⟨x,h,by simp [h1,h2]⟩
theorem px (x:Span) (a:List Span) (t:Int):inS (x::a) t=((decide (x.From≤t)&&decide (t < x.Until))||inS a t):=rfl
theorem BY:∀ (a b:List Span) (c:Int),-1≤c→okS a c→okS b c→(∀ t,c < t→t < 1099511627776→inS a t=inS b t)→a=b
 | [],[],_,_,_,_,_=>rfl
 | [],y::b,c,hc,_,⟨h1,h2,h3,_⟩,h=>by
  have:=h y.From h1 (by omega)
  rw [rG (List.mem_cons_self ..) (Int.le_refl _) h2] at this
  cases this
 | x::a,[],c,hc,⟨h1,h2,h3,_⟩,_,h=>by
  have:=h x.From h1 (by omega)
  rw [rG (List.mem_cons_self ..) (Int.le_refl _) h2] at this
  cases this
 | x::a,y::b,c,hc,⟨h1,h2,h3,h4⟩,⟨k1,k2,k3,k4⟩,h=>by
  have ina:∀ t,c < t→t < 1099511627776→x.From≤t→t < x.Until→y.From≤t:=fun t ht hE u1 u2=>by
   have e:=h t ht hE
   rw [rG (List.mem_cons_self ..) u1 u2] at e
   by_cases g:y.From≤t
   ·exact g
   ·have g1:decide (y.From≤t)=false:=by simpa using g
    rw [px,g1,xq b y.Until t k4 (by omega)] at e
    cases e
  have inb:∀ t,c < t→t < 1099511627776→y.From≤t→t < y.Until→x.From≤t:=fun t ht hE u1 u2=>by
   have e:=(h t ht hE).symm
   rw [rG (List.mem_cons_self ..) u1 u2] at e
   by_cases g:x.From≤t
   ·exact g
   ·have g1:decide (x.From≤t)=false:=by simpa using g
    rw [px,g1,xq a x.Until t h4 (by omega)] at e
    cases e
  have eF:x.From=y.From:=by
   have a1:=ina x.From h1 (by omega) (Int.le_refl _) h2
   have a2:=inb y.From k1 (by omega) (Int.le_refl _) k2
   omega
  have eU:x.Until=y.Until:=by
   rcases Int.lt_trichotomy x.Until y.Until with g | g | g
   ·have e:=h x.Until (by omega) (by omega)
    rw [rG (s:=y::b) (List.mem_cons_self ..) (show y.From≤x.Until by omega) g] at e
    have g1:decide (x.Until < x.Until)=false:=by simp
    rw [px,g1,xq a x.Until x.Until h4 (Int.le_refl _)] at e
    simp at e
   ·exact g
   ·have e:=h y.Until (by omega) (by omega)
    rw [rG (s:=x::a) (List.mem_cons_self ..) (show x.From≤y.Until by omega) g] at e
    have g1:decide (y.Until < y.Until)=false:=by simp
    rw [px,g1,xq b y.Until y.Until k4 (Int.le_refl _)] at e
    simp at e
  have exy:x=y:=by cases x;cases y;simp only at eF eU;rw [eF,eU]
  subst exy
  congr 1
  refine BY a b x.Until (by omega) h4 k4 fun t ht hE=>?_
  have e:=h t (by omega) hE
  have g1:decide (t < x.Until)=false:=by simp;omega
  rw [px,px,g1,Bool.and_false,Bool.false_or,Bool.false_or] at e
  exact e
theorem yI.uniq {f g:Int→Bool} {a b:List Span} (ha:yI f a 1099511627776) (hb:yI g b 1099511627776) (h:∀ t,0≤t→t < 1099511627776→f t=g t):a=b:=
 BY a b (-1) (Int.le_refl _) ha.ok hb.ok fun t h1 h2=>by rw [ha.is t (by omega) h2,hb.is t (by omega) h2,h t (by omega) h2]
theorem Bv (b:List Span):∀ (l pre:List Span),b=pre++l→dD.L1 b true l pre.length=true
 | [],_,_=>rfl
 | y::l,pre,h=>by
  have hx:nthI b ((pre.length:Nat):Int)=y:=by
   have hb:0≤((pre.length:Nat):Int)∧((pre.length:Nat):Int) < (b.length:Int):=by rw [h];simp;omega
   have hg:=eN hb
   rw [show ((pre.length:Nat):Int).toNat=pre.length from by omega,h] at hg
   rw [h];simpa using hg.symm
  have ih:=Bv b l (pre++[y]) (by rw [h];simp)
  rw [List.length_append,List.length_cons,List.length_nil,Nat.zero_add] at ih
  simp only [dD.L1,hx,decide_true,Bool.not_true,cond_false]
  exact ih
theorem E4 (s:List Span):dD s s=true:=by
 unfold dD
 have:=Bv s s [] rfl
 simp only [bne_self_eq_false,cond_false]
 exact this
def knownA (known:Int) (l:List Appoint):List Appoint:=l.filter fun y=>decide (y.Known≤known)
def knownI (known:Int) (l:List Interest):List Interest:=l.filter fun y=>decide (y.Known≤known)
def knownV (known:Int) (l:List Version):List Version:=l.filter fun y=>decide (y.Known≤known)
def knownR (known:Int) (r:Register):Register:=⟨knownA known r.Appoints,[],knownI known r.Interests,[],knownV known r.Versions,r.Docs,[]⟩
theorem EB (known:Int) (k:List Appoint→Bool):∀ (l g:List Appoint),aM.L1 known k l g=k (g++knownA known l)
 | [],g=>by simp [aM.L1,knownA]
 | y::l,g=>by
  have ih:=EB known k l
  simp only [aM.L1,knownA,List.filter_cons,ih] at ih ⊢
  cases decide (y.Known≤known) <;> simp
theorem EA (known:Int) (k:List Interest→Bool):∀ (l g:List Interest),aM.L2 known k l g=k (g++knownI known l)
 | [],g=>by simp [aM.L2,knownI]
 | y::l,g=>by
  have ih:=EA known k l
  simp only [aM.L2,knownI,List.filter_cons,ih] at ih ⊢
  cases decide (y.Known≤known) <;> simp
theorem Ez (known:Int) (k:List Version→Bool):∀ (l g:List Version),aM.L3 known k l g=k (g++knownV known l)
 | [],g=>by simp [aM.L3,knownV]
 | y::l,g=>by
  have ih:=Ez known k l
  simp only [aM.L3,knownV,List.filter_cons,ih] at ih ⊢
  cases decide (y.Known≤known) <;> simp
theorem Ey (person:Int) (k:Bool):∀ l:List Int,aM.L4 person k l=bif l.contains ((IntKind.wrap .i64 person).tmod 64) then true else k
 | []=>rfl
 | y::l=>by
  simp only [aM.L4,Ey person k l,List.contains_cons]
  rw [show (y==(IntKind.wrap .i64 person).tmod 64)=((IntKind.wrap .i64 person).tmod 64==y) from by rw [Bool.eq_iff_iff];simp;exact eq_comm]
  cases (IntKind.wrap .i64 person).tmod 64==y <;> simp
theorem zC {α : Type} {R:α→Bool} {no:α→Int} {c:Int} (hc:c≠0):∀ (l:List α) (g:Int),prgChk R no c l g=0↔(∀ y∈l,R y=true∧g < no y)∧l.Pairwise (fun a b=>no a < no b)
 | [],g=>by simp [prgChk]
 | y::l,g=>by
  have ih:=zC hc l (no y) (R:=R) (no:=no)
  simp only [prgChk,Bool.cond_eq_ite,Bool.or_eq_true,Bool.not_eq_true',decide_eq_true_eq]
  split
  ·next h=>simp only [hc,false_iff];rintro ⟨h1,_⟩;have:=h1 y (List.mem_cons_self ..);rcases h with h | h <;> simp_all;omega
  ·next h=>
   rw [ih]
   simp only [not_or,Bool.not_eq_false,Int.not_le] at h
   constructor
   ·rintro ⟨h1,h2⟩
    refine ⟨fun z hz=>?_,List.pairwise_cons.2 ⟨fun z hz=>(h1 z hz).2,h2⟩⟩
    rcases List.mem_cons.1 hz with rfl | hz
    ·exact h
    ·have:=h1 z hz;exact ⟨this.1,by omega⟩
   ·rintro ⟨h1,h2⟩
    obtain ⟨p1,p2⟩:=List.pairwise_cons.1 h2
    exact ⟨fun z hz=>⟨(h1 z (List.mem_cons_of_mem _ hz)).1,p1 z hz⟩,p2⟩
theorem xn {α : Type} {R:α→Bool} {no:α→Int} {c:Int} (hc:c≠0) {l m:List α} {g:Int} (hs:m.Sublist l) (h:prgChk R no c l g=0):prgChk R no c m g=0:=by
 rw [zC hc] at h ⊢
 exact ⟨fun y hy=>h.1 y (hs.subset hy),h.2.sublist hs⟩
end Go.Sg
namespace Go.Sg
set_option linter.unusedVariables false
set_option linter.unusedSimpArgs false
theorem officesP (l:List Appoint) (g:Int):cx.L1 cx.K1 l g=prgChk jf (·.No) 150 l g:=by
 induction l generalizing g with
 | nil=>rfl
 | cons y l ih=>simp only [cx.L1,prgChk,ih]
theorem interestsP (l:List Interest) (g:Int):bS.L1 bS.K1 l g=prgChk iw (·.No) 290 l g:=by
 induction l generalizing g with
 | nil=>rfl
 | cons y l ih=>simp only [bS.L1,prgChk,ih]
theorem vy {l m:List Appoint} (hs:m.Sublist l) (h:cx l=0):cx m=0:=by
 unfold cx at h ⊢
 rw [officesP,Bool.cond_eq_ite] at h ⊢
 split at h
 ·omega
 ·next hc=>rw [if_neg (by have:=hs.length_le;simp only [decide_eq_true_eq] at hc ⊢;omega)];exact xn (by omega) hs h
theorem sR {l m:List Interest} (hs:m.Sublist l) (h:bS l=0):bS m=0:=by
 unfold bS at h ⊢
 rw [interestsP,Bool.cond_eq_ite] at h ⊢
 split at h
 ·omega
 ·next hc=>rw [if_neg (by have:=hs.length_le;simp only [decide_eq_true_eq] at hc ⊢;omega)];exact xn (by omega) hs h
theorem pQ {l m:List Version} (hs:m.Sublist l) (h:br l=0):br m=0:=by
 rw [kw] at h ⊢
 exact ⟨Nat.le_trans hs.length_le h.len,fun v hv=>h.each v (hs.subset hv),h.inc.sublist hs⟩
theorem AI {r:Register} {known:Int} (h:fa r=0):fa (knownR known r)=0:=by
 rw [rD] at h ⊢
 obtain ⟨d1,d2,d3,d4,d5,d6,d7⟩:=h
 exact ⟨vy (List.filter_sublist ..) d1,rfl,sR (List.filter_sublist ..) d3,rfl,pQ (List.filter_sublist ..) d5,d6,rfl⟩
theorem xE {t known:Int} (later:Appoint→Appoint→Bool) (k:List (OSeat×Appoint)→List (OSeat×Appoint)):∀ (l:List Appoint) (m:List (OSeat×Appoint)),bN.L1 (fun cD=>ed cD t known) later k (knownA known l) m=bN.L1 (fun cD=>ed cD t known) later k l m
 | [],m=>rfl
 | y::l,m=>by
  have ih:=xE (t:=t) (known:=known) later k l
  unfold knownA at ih ⊢
  rw [List.filter_cons]
  cases hy:decide (y.Known≤known) with
  | true=>simp only [if_true,bN.L1,ih]
  | false=>
   have hk2:(ed y t known).2=false:=by show (_&&decide (y.Known≤known))=false;rw [hy,Bool.and_false]
   simp only [Bool.false_eq_true,if_false,bN.L1,ih,hk2,Bool.false_and,cond_false]
theorem zj {l:List Appoint} {o t known:Int} (h:cx l=0):dy (knownA known l) o t known=dy l o t known:=by
 have e1:eV (knownA known l) t known=eV l t known:=xE _ _ l []
 unfold dy
 rw [e1,h,vy (m:=knownA known l) (List.filter_sublist ..) h]
theorem rJ (known eo:Int):∀ (l:List Version) b m,inForceM known eo (knownV known l) b m=inForceM known eo l b m
 | [],b,m=>rfl
 | y::l,b,m=>by
  have ih:=rJ known eo l
  unfold knownV at ih ⊢
  rw [List.filter_cons]
  cases hy:decide (y.Known≤known) with
  | true=>simp only [if_true,inForceM,ih]
  | false=>
   have:decide (known < y.Known)=true:=by simp at hy ⊢;omega
   simp only [Bool.false_eq_true,if_false,inForceM,ih,this,cond_true]
theorem Bb {l:List Version} {begun t known:Int} (h:br l=0):aV (knownV known l) begun t known=aV l begun t known:=by
 have e1:e8 (knownV known l) begun known=e8 l begun known:=by rw [nX,nX,rJ]
 unfold aV
 rw [e1,h,pQ (m:=knownV known l) (List.filter_sublist ..) h]
def stMap (t known:Int):List Interest→List (cL×Interest)→List (cL×Interest)
 | [],m=>m
 | y::l,m=>bif (decide (t < y.At)||decide (known < y.Known)) then stMap t known l m else bif ((!(mhas m (cL.mk y.Person y.Party y.Of)))||decide ((mgetD m (cL.mk y.Person y.Party y.Of) (Interest.mk 0 0 0 0 0 false false)).At≤y.At)) then stMap t known l (mput m (cL.mk y.Person y.Party y.Of) y) else stMap t known l m
theorem oB (t known:Int) (k:List (cL×Interest)→List Interest):∀ (l:List Interest) m,bu.L1 t known k l m=k (stMap t known l m)
 | [],m=>rfl
 | y::l,m=>by
  simp only [bu.L1,stMap,oB t known k l]
  cases (decide (t < y.At)||decide (known < y.Known)) <;> cases ((!(mhas m (cL.mk y.Person y.Party y.Of)))||decide ((mgetD m (cL.mk y.Person y.Party y.Of) (Interest.mk 0 0 0 0 0 false false)).At≤y.At)) <;> rfl
theorem vm (t known:Int):∀ (l:List Interest) m,stMap t known (knownI known l) m=stMap t known l m
 | [],m=>rfl
 | y::l,m=>by
  have ih:=vm t known l
  unfold knownI at ih ⊢
  rw [List.filter_cons]
  cases hy:decide (y.Known≤known) with
  | true=>simp only [if_true,stMap,ih]
  | false=>
   have:decide (known < y.Known)=true:=by simp at hy ⊢;omega
   simp only [Bool.false_eq_true,if_false,stMap,ih,this,Bool.or_true,cond_true]
theorem pT (t known:Int):∀ (l:List Interest) m,(∀ q∈m,q.2.Known≤known)→∀ q∈stMap t known l m,q.2.Known≤known
 | [],m,h=>h
 | y::l,m,h=>by
  simp only [stMap,Bool.cond_eq_ite]
  split
  ·exact pT t known l m h
  ·next hc=>
   split
   ·refine pT t known l _ fun q hq=>?_
    rcases sa hq with rfl | hq
    ·simp only [Bool.or_eq_true,decide_eq_true_eq,not_or] at hc;show y.Known≤known;omega
    ·exact h q hq
   ·exact pT t known l m h
theorem xy {κ α : Type} [DecidableEq κ] (P:α→Prop) {z:α} (hz:P z) (x:κ):∀ (m:List (κ×α)),(∀ q∈m,P q.2)→P (mgetD m x z)
 | [],_=>hz
 | (k,v)::m,h=>by
  have ih:=xy P hz x m fun q hq=>h q (List.mem_cons_of_mem _ hq)
  unfold mgetD at ih ⊢
  unfold mget?
  split
  ·exact h (k,v) (List.mem_cons_self ..)
  ·exact ih
theorem lk (v:List (cL×Interest)):∀ l:List Interest,bB.L1 v [] l=l.filter fun y=>(!y.Gone)&&decide (mgetD v (cL.mk y.Person y.Party y.Of) (Interest.mk 0 0 0 0 0 false false)=y)
 | []=>rfl
 | y::l=>by
  simp only [bB.L1,List.filter_cons,lk v l]
  cases ((!y.Gone)&&decide (mgetD v (cL.mk y.Person y.Party y.Of) (Interest.mk 0 0 0 0 0 false false)=y)) <;> rfl
theorem wM {t known:Int} (hk:0≤known) (l:List Interest):bu (knownI known l) t known=bu l t known:=by
 unfold bu
 rw [oB,oB,vm]
 unfold bu.K1 bB bB.K1
 have hv:=pT t known l [] (fun _ h=>(List.not_mem_nil h).elim)
 generalize stMap t known l []=v at *
 rw [lk,lk]
 unfold knownI
 rw [List.filter_filter]
 apply List.filter_congr
 intro y hy
 cases hd:decide (mgetD v (cL.mk y.Person y.Party y.Of) (Interest.mk 0 0 0 0 0 false false)=y) with
 | false=>simp
 | true=>
  have h1:=xy (fun q:Interest=>q.Known≤known) (z:=Interest.mk 0 0 0 0 0 false false) hk (cL.mk y.Person y.Party y.Of) v hv
  rw [of_decide_eq_true hd] at h1
  simp [h1]
theorem tP (l:List Interest) (a b:Int):∃ p:Interest→Bool,bu l a b=l.filter p:=by
 unfold bu
 rw [oB]
 exact ⟨_,lk _ l⟩
theorem yS {r:Register} {d:Document} {known t:Int} (hv:br r.Versions=0) (hd:0≤d.At∧d.At < 1099511627776) (ht:0≤t∧t < 1099511627776) (hk:0≤known∧known < 1099511627776) (hle:d.At≤t):
  av ⟨knownR known r,d,known⟩ t=av ⟨r,d,known⟩ t:=by
 have g:=(kw r.Versions).1 hv
 have g2:=(kw (knownV known r.Versions)).1 (pQ (List.filter_sublist ..) hv)
 have eJ:=Bb (l:=r.Versions) (begun:=d.At) (t:=t) (known:=known) hv
 have j:=Fs g2 (begun:=d.At) (at_:=t) (known:=known) hd ht hk hle
 have jerr:=j.err
 rw [eJ] at j jerr
 unfold av
 show (bif ((aV (knownV known r.Versions) d.At t known).2.2 != 0) then ([],0) else av.L1 ⟨knownR known r,d,known⟩ t (av.K1 ⟨knownR known r,d,known⟩ t) (knownV known r.Versions) [])=(bif ((aV r.Versions d.At t known).2.2 != 0) then ([],0) else av.L1 ⟨r,d,known⟩ t (av.K1 ⟨r,d,known⟩ t) r.Versions [])
 rw [mP,mP]
 dsimp only [knownR]
 rw [eJ,jerr]
 simp only [bne_self_eq_false,cond_false,List.nil_append]
 congr 2
 unfold knownV
 rw [List.filter_filter]
 apply List.filter_congr
 intro v hv2
 cases hc:fQ (aV r.Versions d.At t known).1 v.No with
 | false=>simp
 | true=>
  obtain ⟨w,hw,e⟩:=j.mem v.No ((AV _ _).1 hc)
  have hw2:=List.mem_filter.1 hw
  have e2:=EE g.inc hw2.1 hv2 e
  rw [← e2]
  simpa using hw2.2
end Go.Sg
namespace Go.Sg
set_option linter.unusedVariables false
set_option linter.unusedSimpArgs false
theorem rightH {hs:List (List Holder)} {n:Int} (h:cJ hs n=true):∀ l∈hs,∀ y∈l,1≤y.Weight∧y.Weight≤64:=by
 have h3:∀ (k:List Int→Bool) (l:List Holder) (g:List Int),cJ.L3 k l g=true→(∀ y∈l,1≤y.Weight∧y.Weight≤64)∧∃ g',k g'=true:=by
  intro k l
  induction l with
  | nil=>exact fun g h=>⟨fun _ h=>(List.not_mem_nil h).elim,g,h⟩
  | cons y l ih=>
   intro g h
   simp only [cJ.L3,Bool.cond_eq_ite] at h
   split at h
   ·cases h
   ·next hc=>
    simp only [Bool.or_eq_true,decide_eq_true_eq,not_or] at hc
    obtain ⟨h1,h2⟩:=ih _ h
    refine ⟨fun z hz=>?_,h2⟩
    rcases List.mem_cons.1 hz with rfl | hz
    ·omega
    ·exact h1 z hz
 have h1:∀ (k:Bool) (l:List (List Holder)),cJ.L1 k l=true→∀ m∈l,∀ y∈m,1≤y.Weight∧y.Weight≤64:=by
  intro k l
  induction l with
  | nil=>exact fun _ _ h=>(List.not_mem_nil h).elim
  | cons y l ih=>
   intro h m hm
   obtain ⟨h4,g',hg⟩:=h3 _ _ _ h
   simp only [Bool.cond_eq_ite] at hg
   split at hg
   ·cases hg
   ·rcases List.mem_cons.1 hm with rfl | hm
    ·exact h4
    ·exact ih hg m hm
 exact h1 _ hs h
theorem yC (q:bp) (o:Int):dH q o=(nthI q.holders o).filter fun y=>q.who.contains y.Person:=by
 have:∀ l:List Holder,bI.L1 q [] l=l.filter fun y=>q.who.contains y.Person:=by
  intro l
  induction l with
  | nil=>rfl
  | cons y l ih=>
   simp only [bI.L1,slices_BinarySearch_int,List.filter_cons,ih]
   cases q.who.contains y.Person <;> rfl
 exact this _
theorem vM {α : Type} {p p':α→Bool}:∀ {l:List α},(∀ x∈l,p x=true→p' x=true)→(l.filter p).Sublist (l.filter p')
 | [],_=>List.Sublist.refl _
 | x::l,h=>by
  have ih:=vM (l:=l) fun y hy=>h y (List.mem_cons_of_mem _ hy)
  have hx:=h x (List.mem_cons_self ..)
  rw [List.filter_cons,List.filter_cons]
  cases h1:p x with
  | true=>rw [hx h1];exact ih.cons_cons _
  | false=>
   cases p' x with
   | true=>exact ih.cons _
   | false=>exact ih
structure Hw (q q':bp):Prop where
 value:q'.value=q.value
 holders:q'.holders=q.holders
 who:∀ x∈q.who,x∈q'.who
 wt:∀ l∈q.holders,∀ y∈l,1≤y.Weight∧y.Weight≤64
 len:∀ l∈q.holders,l.length≤2000000
theorem yB {q q':bp} (h:Hw q q') (o:Int):(dH q o).Sublist (dH q' o):=by
 rw [yC,yC,h.holders]
 exact vM fun y _ hy=>by simp only [List.contains_iff_mem] at hy ⊢;exact h.who _ hy
theorem Ev {α : Type} [Inhabited α] {P:α→Prop} {l:List α} (h:∀ y∈l,P y) (hd:P default) (z:Int):P (nthI l z):=by
 by_cases hz:z.toNat < l.length
 ·have:nthI l z=l[z.toNat]:=by simp [nthI,List.getD_eq_getElem?_getD,hz]
  rw [this];exact h _ (List.getElem_mem _)
 ·have:nthI l z=default:=by simp [nthI,List.getD_eq_getElem?_getD,hz]
  rw [this];exact hd
theorem Hq {q q':bp} (h:Hw q q') (o:Int):(∀ y∈dH q' o,1≤y.Weight∧y.Weight≤64)∧(dH q' o).length≤2000000:=by
 rw [yC,h.holders]
 have h1:(∀ y∈nthI q.holders o,1≤y.Weight∧y.Weight≤64)∧(nthI q.holders o).length≤2000000:=Ev (P:=fun l:List Holder=>(∀ y∈l,1≤y.Weight∧y.Weight≤64)∧l.length≤2000000) (fun l hl=>⟨h.wt l hl,h.len l hl⟩) ⟨(fun _ h=>(List.not_mem_nil h).elim),Nat.zero_le _⟩ o
 exact ⟨fun y hy=>h1.1 y (List.mem_filter.1 hy).1,Nat.le_trans (List.length_filter_le _ _) h1.2⟩
def wsum (l:List Holder):Int:=(l.map (·.Weight)).sum
theorem Ah:∀ {l m:List Holder},l.Sublist m→(∀ y∈m,1≤y.Weight∧y.Weight≤64)→wsum l≤wsum m
 | _,_,.slnil,_=>Int.le_refl _
 | _,_,.cons (l₂:=m) y hs,h=>by
  have ih:=Ah hs fun z hz=>h z (List.mem_cons_of_mem _ hz)
  have:=h y (List.mem_cons_self ..)
  simp only [wsum,List.map_cons,List.sum_cons] at ih ⊢;omega
 | _,_,.cons_cons (l₂:=m) y hs,h=>by
  have ih:=Ah hs fun z hz=>h z (List.mem_cons_of_mem _ hz)
  simp only [wsum,List.map_cons,List.sum_cons] at ih ⊢;omega
theorem uD (k:Int→Bool):∀ (l:List Holder) (g:Int),0≤g→g+64 * l.length≤1000000000000→(∀ y∈l,1≤y.Weight∧y.Weight≤64)→cI.L1 k l g=k (g+wsum l)
 | [],g,_,_,_=>by simp [cI.L1,wsum]
 | y::l,g,h0,hb,h=>by
  have hy:=h y (List.mem_cons_self ..)
  rw [List.length_cons] at hb
  have e:IntKind.wrap .i64 (g+y.Weight)=g+y.Weight:=wrap64 (by omega)
  simp only [cI.L1,e]
  rw [uD k l _ (by omega) (by omega) fun z hz=>h z (List.mem_cons_of_mem _ hz)]
  simp only [wsum,List.map_cons,List.sum_cons]
  rw [Int.add_assoc]
theorem Gy (rec:bp→Expr→Bool) (q:bp) (k:Int→Bool):∀ (l:List Expr) (g:Int),0≤g→g+l.length≤1000000000000→db.L1 rec q k l g=k (g+(l.countP (rec q):Nat))
 | [],g,_,_=>by simp [db.L1]
 | y::l,g,h0,hb=>by
  rw [List.length_cons] at hb
  have e:IntKind.wrap .i64 (g+1)=g+1:=wrap64 (by omega)
  simp only [db.L1,e]
  rw [Gy rec q k l g h0 (by omega),Gy rec q k l (g+1) (by omega) (by omega),List.countP_cons]
  cases rec q y
  ·simp
  ·simp only [cond_true,if_true];congr 1;omega
theorem vI {q q':bp} (h:Hw q q'):∀ (m:Nat) (x:Expr),x.dep≤2000000→cw.go m q x=true→cw.go m q' x=true
 | 0,x,_,hx=>hx
 | m+1,x,hd,hx=>by
  have ih:=vI h m
  simp only [cw.go,cw.F,fulQ] at hx ⊢
  split
  ·next hk=>
   rw [if_pos hk] at hx
   unfold dG at hx ⊢
   have hs:=yB h x.No
   cases e:dH q x.No with
   | nil=>rw [e] at hx;cases hx
   | cons y l=>
    rw [e] at hs
    cases e2:dH q' x.No with
    | nil=>rw [e2] at hs;cases hs
    | cons z l=>rfl
  ·next hk=>
   rw [if_neg hk] at hx
   split
   ·next hk2=>
    rw [if_pos hk2] at hx
    unfold cI at hx ⊢
    obtain ⟨w1,w2⟩:=Hq h x.No
    have hs:=yB h x.No
    have hl:=hs.length_le
    rw [uD _ _ _ (Int.le_refl _) (by omega) fun y hy=>w1 y (hs.subset hy)] at hx
    rw [uD _ _ _ (Int.le_refl _) (by omega) w1]
    have:=Ah hs w1
    simp only [cI.K1,decide_eq_true_eq] at hx ⊢
    omega
   ·next hk2=>
    rw [if_neg hk2] at hx
    split
    ·next hk3=>
     rw [if_pos hk3] at hx
     unfold db.F at hx ⊢
     have hl:=Expr.DP x
     rw [Gy _ _ _ _ _ (Int.le_refl _) (by omega)] at hx ⊢
     have:x.L.countP (cw.go m q)≤x.L.countP (cw.go m q'):=List.countP_mono_left fun y hy hh=>ih y (by have:=Expr.iv hy;omega) hh
     simp only [db.K1,decide_eq_true_eq] at hx ⊢
     omega
    ·next hk3=>
     rw [if_neg hk3] at hx
     unfold iu.F at hx ⊢
     have hsm:∀ z,(nthI x.L z).dep≤2000000:=Ev (P:=fun y:Expr=>y.dep≤2000000) (fun y hy=>by have:=Expr.iv hy;omega) (by decide)
     rw [h.value]
     rw [Bool.cond_eq_ite] at hx ⊢
     split
     ·next hc=>rw [if_pos hc] at hx;exact ih _ (hsm _) hx
     ·next hc=>rw [if_neg hc] at hx;exact ih _ (hsm _) hx
theorem AZ {p:Policy} {kind value:Int} {hs:List (List Holder)} {w w':List Int} (hp:smP p) (hl:∀ l∈hs,l.length≤2000000) (hw:∀ x∈w,x∈w') (hw':df w'=true) (hk:kind < (p.Rules.length:Int))
  (h:((cp p kind value hs w).1&&((cp p kind value hs w).2==0))=true):((cp p kind value hs w').1&&((cp p kind value hs w').2==0))=true:=by
 unfold cp at h ⊢
 cases hc:(cy p != 0) with
 | true=>rw [hc] at h;simp at h
 | false=>
  rw [hc] at h
  simp only [cond_false] at h ⊢
  cases ha:(((decide (kind < 0)||decide (((p.Kinds.length:Nat):Int)≤kind))||decide (value < 0))||decide (1099511627776 < value)) with
  | true=>rw [ha] at h;simp at h
  | false=>
   rw [ha] at h
   simp only [cond_false] at h ⊢
   cases hr:cJ hs ((p.Offices.length:Nat):Int) with
   | false=>rw [hr] at h;simp at h
   | true=>
    rw [hr] at h
    simp only [Bool.not_true,cond_false] at h ⊢
    cases hq:df w with
    | false=>rw [hq] at h;simp at h
    | true=>
     rw [hq] at h
     rw [hw']
     simp only [Bool.not_true,cond_false,beq_self_eq_true,Bool.and_true] at h ⊢
     simp only [Bool.or_eq_false_iff,decide_eq_false_iff_not] at ha
     have hx:(nthI p.Rules kind).Expr.dep≤2000000:=Nat.le_trans (hp.2.1 _ (ki (by omega))) (by omega)
     exact vI (q:=⟨value,hs,w⟩) (q':=⟨value,hs,w'⟩) ⟨rfl,rfl,hw,rightH hr,hl⟩ _ _ hx h
end Go.Sg
namespace Go.Sg
set_option linter.unusedVariables false
set_option linter.unusedSimpArgs false
theorem uX (f:Bool→Bool):∀ (l:List Bool) (i:Nat),decide (0≤cV.L1 f cV.K1 l i)=l.any f
 | [],i=>rfl
 | y::l,i=>by
  have ih:=uX f l (i+1)
  simp only [cV.L1,List.any_cons,Bool.cond_eq_ite]
  split
  ·next h=>rw [h];simp
  ·next h=>rw [ih];simp [h]
def decV (mode:Int) (l:List Bool):Bool:=bif mode==4 then l.any id else bif mode==3 then l.any id&&!(l.any fun b=>!b) else (((l.length:Nat):Int)==1)&&nthI l 0
theorem Fv (mode:Int) (l:List Bool):fw mode l=bif fN mode l != 0 then (false,fN mode l) else (decV mode l,0):=by
 have y1:decide (0≤bL l dt)=l.any id:=uX _ l 0
 have y2:decide (0≤bL l et)=l.any fun b=>!b:=uX _ l 0
 have L1:∀ (s:List Bool) i g,(bg.L1 (bg.K1 l) s i g).2=(l.any id,0):=by
  intro s
  induction s with
  | nil=>intro i g;simp only [bg.L1,bg.K1,y1]
  | cons y s ih=>intro i g;exact ih _ _
 have L2:∀ (s:List Bool) i g,(bg.L2 (bg.K2 l) s i g).2=((((l.length:Nat):Int)==1)&&nthI l 0,0):=by
  intro s
  induction s with
  | nil=>intro i g;rfl
  | cons y s ih=>intro i g;exact ih _ _
 have L3:∀ (s:List Bool) i g,(bg.L3 bg.K3 s i g).2=(false,0):=by
  intro s
  induction s with
  | nil=>intro i g;rfl
  | cons y s ih=>intro i g;exact ih _ _
 have e:fw mode l=(bg mode l).2:=rfl
 rw [e]
 unfold bg decV
 rw [y1,y2]
 cases (fN mode l != 0) with
 | true=>rfl
 | false=>
  simp only [cond_false]
  by_cases h4:mode=4
  ·subst h4
   cases h:l.any id with
   | true=>rfl
   | false=>
    have:((4:Int)==3)=false:=rfl
    simp only [beq_self_eq_true,Bool.and_false,cond_false,this,Bool.false_and,bne_self_eq_false,L3,cond_true]
  ·have e4:(mode==4)=false:=by simpa using h4
   have n4:(mode != 4)=true:=by simpa using h4
   rw [e4,n4]
   simp only [Bool.false_and,cond_false,cond_true]
   by_cases h3:mode=3
   ·subst h3
    cases h:l.any fun b=>!b with
    | true=>simp
    | false=>simp only [beq_self_eq_true,Bool.and_false,cond_false,L1,cond_true,Bool.not_false,Bool.and_true]
   ·have e3:(mode==3)=false:=by simpa using h3
    rw [e3]
    simp only [Bool.false_and,cond_false,L2]
theorem Fo {α : Type} {f g:α→Bool} (mode:Int) {l:List α} (h:∀ x∈l,f x=true→g x=true) (hd:decV mode (l.map f)=true):decV mode (l.map g)=true:=by
 have hany:(l.map f).any id=true→(l.map g).any id=true:=by
  simp only [List.any_map,List.any_eq_true,Function.comp,id]
  rintro ⟨x,hx,hf⟩;exact ⟨x,hx,h x hx hf⟩
 have hno:((l.map f).any fun b=>!b)=false→((l.map g).any fun b=>!b)=false:=by
  simp only [List.any_map,List.any_eq_false,Function.comp,Bool.not_eq_true',Bool.not_eq_false]
  exact fun hf x hx=>h x hx (hf x hx)
 unfold decV at hd ⊢
 rw [Bool.cond_eq_ite] at hd ⊢
 split
 ·next h4=>rw [if_pos h4] at hd;exact hany hd
 ·next h4=>
  rw [if_neg h4,Bool.cond_eq_ite] at hd
  rw [Bool.cond_eq_ite]
  split
  ·next h3=>
   rw [if_pos h3,Bool.and_eq_true,Bool.not_eq_true'] at hd
   rw [Bool.and_eq_true,Bool.not_eq_true']
   exact ⟨hany hd.1,hno hd.2⟩
  ·next h3=>
   rw [if_neg h3] at hd
   match l,h,hd with
   | [],_,hd=>exact hd
   | [x],h,hd=>
    have hx:f x=true:=hd
    have:=h x (List.mem_cons_self ..) hx
    show (true&&g x)=true
    rw [this];rfl
   | x::y::l,_,hd=>
    simp only [List.map_cons,List.length_cons,Bool.and_eq_true,beq_iff_eq] at hd
    omega
theorem DT {q:aS} {who who':List Int} (hs:smR q.Register) (hw:∀ x∈who,x∈who') (hp:(∀ x∈who',0≤x∧x < 64)∧who'.Pairwise (· < ·)) {t:Int} (h:bn q who t=true):bn q who' t=true:=by
 unfold bn at h ⊢
 rw [Bool.cond_eq_ite] at h ⊢
 split at h
 ·cases h
 ·next hc=>
  rw [if_neg hc]
  rw [ES,List.nil_append] at h ⊢
  unfold bn.K1 at h ⊢
  rw [Fv] at h ⊢
  have hlen:fN (av q t).2 (List.map (cval q who' t) (av q t).1)=fN (av q t).2 (List.map (cval q who t) (av q t).1):=by
   unfold fN;rw [List.length_map,List.length_map]
  rw [hlen]
  cases hck:(fN (av q t).2 (List.map (cval q who t) (av q t).1) != 0) with
  | true=>rw [hck] at h;simp at h
  | false=>
   rw [hck] at h
   simp only [cond_false,beq_self_eq_true,Bool.and_true] at h ⊢
   refine Fo _ (fun p hpm hv=>?_) h
   obtain ⟨v,hv1,hv2⟩:=qe hpm
   have hsp:=hs.vers.2 v hv1
   rw [hv2] at hsp
   unfold cval at hv ⊢
   rw [Bool.cond_eq_ite] at hv ⊢
   split at hv
   ·next hk=>
    rw [if_pos hk]
    simp only [Bool.and_eq_true,decide_eq_true_eq] at hk
    refine AZ hsp (rj hs.2.1 _ _) (fun x hx=>?_) ?_ hk.1 hv
    ·unfold bx at hx ⊢
     obtain ⟨h1,h2⟩:=List.mem_filter.1 hx
     exact List.mem_filter.2 ⟨hw x h1,h2⟩
    ·rw [zI]
     unfold bx
     exact ⟨fun x hx=>hp.1 x (List.mem_filter.1 hx).1,hp.2.sublist (List.filter_sublist ..)⟩
   ·next hk=>rw [if_neg hk];exact hv
theorem DK (who:List Int) (n:Int):∀ (l pre:List Int),who=pre++l→(∀ x∈pre,x≤n)→∃ a b,who=a++b∧dr.L1 who n (dr.K1 n) l pre.length pre=a++(n::b)∧(∀ x∈a,x≤n)∧(∀ x∈b,who.Pairwise (· < ·)→n < x)
 | [],pre,h,hpre=>⟨pre,[],by simpa using h,by simp [dr.L1,dr.K1],hpre,fun _ h=>(List.not_mem_nil h).elim⟩
 | y::l,pre,h,hpre=>by
  simp only [dr.L1,Bool.cond_eq_ite,decide_eq_true_eq]
  split
  ·next hy=>
   refine ⟨pre,y::l,h,?_,hpre,fun x hx hp=>?_⟩
   ·rw [show (((pre.length:Nat):Int)).toNat=pre.length from by omega,h];simp
   ·rcases List.mem_cons.1 hx with rfl | hx
    ·exact hy
    ·rw [h,List.pairwise_append] at hp
     have:=(List.pairwise_cons.1 hp.2.1).1 x hx;omega
  ·next hy=>
   obtain ⟨a,b,h1,h2,h3,h4⟩:=DK who n l (pre++[y]) (by rw [h];simp) (fun x hx=>by
    rcases List.mem_append.1 hx with hx | hx
    ·exact hpre x hx
    ·rw [List.mem_singleton.1 hx];omega)
   rw [List.length_append,List.length_cons,List.length_nil,Nat.zero_add] at h2
   exact ⟨a,b,h1,h2,h3,h4⟩
theorem Iv {who:List Int} {n:Int} (hp:(∀ x∈who,0≤x∧x < 64)∧who.Pairwise (· < ·)) (hn:0≤n∧n < 64) (hm:n∉who):((∀ x∈dr who n,0≤x∧x < 64)∧(dr who n).Pairwise (· < ·))∧∀ x,x∈dr who n↔x=n∨x∈who:=by
 obtain ⟨a,b,h1,h2,h3,h4⟩:=DK who n who [] rfl (fun _ h=>(List.not_mem_nil h).elim)
 have e:dr who n=a++(n::b):=h2
 have hmem:∀ x,x∈dr who n↔x=n∨x∈who:=fun x=>by
  rw [e,h1];simp only [List.mem_append,List.mem_cons]
  constructor
  ·rintro (h | h | h) <;> simp [h]
  ·rintro (h | h | h) <;> simp [h]
 refine ⟨⟨fun x hx=>?_,?_⟩,hmem⟩
 ·rcases (hmem x).1 hx with rfl | hx
  ·exact hn
  ·exact hp.1 x hx
 ·have h5:=hp.2
  rw [h1,List.pairwise_append] at h5
  rw [e,List.pairwise_append]
  refine ⟨h5.1,List.pairwise_cons.2 ⟨fun x hx=>h4 x hx hp.2,h5.2.1⟩,fun x hx y hy=>?_⟩
  have hxn:x < n:=by
   have:=h3 x hx
   have:x≠n:=fun q=>hm (by rw [h1,← q];exact List.mem_append_left _ hx)
   omega
  rcases List.mem_cons.1 hy with rfl | hy
  ·exact hxn
  ·exact h5.2.2 x hx y hy
theorem Az (who:List Int) (n:Int):(dr who n).length=who.length+1:=by
 obtain ⟨a,b,h1,h2,h3,h4⟩:=DK who n who [] rfl (fun _ h=>(List.not_mem_nil h).elim)
 have e:dr who n=a++(n::b):=h2
 rw [e,h1];simp;omega
theorem wO {r:Register} (h:smR r) {a:List Appoint} {i:List Interest} {v:List Version} (ha:a.length≤2000000) (hi:i.length≤2000000) (hv:v.length≤2000000) (hm:∀ x∈v,x∈r.Versions):smR (Register.mk a [] i [] v r.Docs []):=
 ⟨⟨hv,fun x hx=>h.vers.2 x (hm x hx)⟩,ha,Nat.zero_le _,hi,Nat.zero_le _,h.2.2.2.2.2.1,Nat.zero_le _⟩
end Go.Sg
namespace Go.Sg
set_option linter.unusedVariables false
theorem Ak (l:List Interest) (a b:Int):∃ p:Interest→Bool,bu l a b=l.filter p:=by
 have h1:∀ v (l:List Interest),bB.L1 v [] l=l.filter fun y=>(!y.Gone)&&decide (mgetD v (cL.mk y.Person y.Party y.Of) (Interest.mk 0 0 0 0 0 false false)=y):=by
  intro v l
  induction l with
  | nil=>rfl
  | cons y l ih=>
   simp only [bB.L1,List.filter_cons,ih]
   cases ((!y.Gone)&&decide (mgetD v (cL.mk y.Person y.Party y.Of) (Interest.mk 0 0 0 0 0 false false)=y)) <;> rfl
 have h2:∀ (k:List (cL×Interest)→List Interest) (l:List Interest) m,∃ m',bu.L1 a b k l m=k m':=by
  intro k l
  induction l with
  | nil=>exact fun m=>⟨m,rfl⟩
  | cons y l ih=>
   intro m
   simp only [bu.L1,Bool.cond_eq_ite]
   split
   ·exact ih _
   ·split
    ·exact ih _
    ·exact ih _
 obtain ⟨m',e⟩:=h2 (bu.K1 l) l []
 exact ⟨_,by unfold bu;rw [e];exact h1 m' l⟩
theorem Bu (l:List Interest) (a b:Int):(bu l a b).length≤l.length:=by
 obtain ⟨p,e⟩:=Ak l a b
 rw [e];exact List.length_filter_le _ _
theorem xw {α : Type} {k:Int} {v:α}:∀ {m:List (Int×α)},k∉m.map (·.1)→(mput m k v).length=m.length+1∧∀ p∈mput m k v,p=(k,v)∨p∈m
 | [],_=>by simp [mput]
 | (k',v')::m,hk=>by
  simp only [List.map_cons,List.mem_cons,not_or] at hk
  obtain ⟨h1,h2⟩:=xw (v:=v) hk.2
  simp only [mput,hk.1,if_false,List.length_cons,h1,List.mem_cons,true_and]
  rintro p (rfl | hp)
  ·exact .inr (.inl rfl)
  ·rcases h2 p hp with h | h
   ·exact .inl h
   ·exact .inr (.inr h)
theorem AE {st:List Interest} {m:List (Int×Bool)} {q:List fY} (hg:mI st m q) {k:Int} (h:mgetD m k false=false):k∉m.map (·.1):=by
 intro hk
 obtain ⟨⟨k',v⟩,hp,rfl⟩:=List.mem_map.1 hk
 have:∀ {m:List (Int×Bool)},(∀ p∈m,p.2=true)→k'∈m.map (·.1)→mgetD m k' false=true:=by
  intro m
  induction m with
  | nil=>intro _ h;simp at h
  | cons p m ih=>
   intro ha hm
   obtain ⟨a,b⟩:=p
   by_cases e:k'=a
   ·have:=ha (a,b) (List.mem_cons_self ..)
    simp only at this
    simp [mgetD,mget?,e,this]
   ·simp only [List.map_cons,List.mem_cons,e,false_or] at hm
    have:=ih (fun p hp=>ha p (List.mem_cons_of_mem _ hp)) hm
    simpa [mgetD,mget?,e] using this
 rw [this (fun p hp=>(hg.1 p hp).1) hk] at h
 cases h
theorem md {st:List Interest} {m:List (Int×Bool)} {q:List fY} {w:fY} (hg:mI st m q) (hw:w.to∈st.map (·.Party)) (h8:w.path.length≤8):mI st (conPut w m q).1 (conPut w m q).2:=by
 unfold conPut
 cases h:mgetD m w.to false with
 | true=>exact hg
 | false=>
  obtain ⟨h1,h2⟩:=xw (v:=true) (AE hg h)
  refine ⟨fun p hp=>?_,?_,fun w' hw'=>?_⟩
  ·rcases h2 p hp with rfl | hp
   ·exact ⟨rfl,hw⟩
   ·exact hg.1 p hp
  ·show (q++[w]).length≤(mput m w.to true).length
   rw [h1,List.length_append];have:=hg.2.1;simp;omega
  ·rcases List.mem_append.1 (show w'∈q++[w] from hw') with hw' | hw'
   ·exact hg.2.2 w' hw'
   ·rw [List.mem_singleton.1 hw'];exact h8
theorem rR {st:List Interest} {m:List (Int×Bool)} {q:List fY} {k:Int} {cap:Nat} (hg:mI st m q) (hn:(m.map (·.1)).Nodup) (hk:k∈st.map (·.Party)) (hc:st.length≤cap) (h:mgetD m k false=false):q.length < cap:=by
 have h1:=AE hg h
 have h2:(k::m.map (·.1)).length≤(st.map (·.Party)).length:=uP (List.nodup_cons.2 ⟨h1,hn⟩) (fun x hx=>by
  rcases List.mem_cons.1 hx with rfl | hx
  ·exact hk
  ·obtain ⟨p,hp,rfl⟩:=List.mem_map.1 hx;exact (hg.1 p hp).2)
 simp only [List.length_cons,List.length_map] at h2
 have:=hg.2.1
 omega
theorem GE {st:List Interest} {m:List (Int×Bool)} {q:List fY} (hg:mI st m q) (hn:(m.map (·.1)).Nodup):m.length≤st.length:=by
 have:=uP (b:=st.map (·.Party)) hn (fun x hx=>by obtain ⟨p,hp,rfl⟩:=List.mem_map.1 hx;exact (hg.1 p hp).2)
 simpa using this
theorem qs {m:List (Int×Bool)} {q:List fY} {w:fY} (hn:(m.map (·.1)).Nodup):((conPut w m q).1.map (·.1)).Nodup:=by
 unfold conPut
 cases mgetD m w.to false with
 | true=>exact hn
 | false=>exact iz _ _ hn
theorem vO {st:List Interest} {m:List (Int×Bool)} {q:List fY} {w:fY} {N:Nat} (hg:mI st m q) (hn:(m.map (·.1)).Nodup) (hw:w.to∈st.map (·.Party)) (hN:st.length≤N):
  (conPut w m q).2.length+(N - (conPut w m q).1.length)≤q.length+(N - m.length):=by
 unfold conPut
 cases h:mgetD m w.to false with
 | true=>simp
 | false=>
  obtain ⟨h1,_⟩:=xw (v:=true) (AE hg h)
  have h2:mI st (mput m w.to true) []:=by
   have:=md (w:=⟨[],w.to⟩) (q:=[]) (st:=st) (m:=m) ⟨hg.1,Nat.zero_le _,fun _ h=>(List.not_mem_nil h).elim⟩ hw (by simp)
   simp only [conPut,h,cond_false] at this
   exact ⟨this.1,Nat.zero_le _,fun _ h=>(List.not_mem_nil h).elim⟩
  have h3:=GE h2 (iz w.to true hn)
  show (q++[w]).length+(N - (mput m w.to true).length)≤_
  rw [h1] at h3
  rw [h1,List.length_append]
  simp;omega
theorem xz {α : Type} (m:List (Int×α)) (k j:Int) (v z:α):mgetD (mput m k v) j z=if j=k then v else mgetD m j z:=by
 induction m with
 | nil=>by_cases h:j=k <;> simp [mput,mgetD,mget?,h]
 | cons p m ih=>
  obtain ⟨a,b⟩:=p
  by_cases h:k=a
  ·subst h
   by_cases h2:j=k <;> simp [mput,mgetD,mget?,h2]
  ·by_cases h2:j=a
   ·subst h2
    have:¬ j=k:=fun e=>h e.symm
    simp [mput,h,mgetD,mget?,this]
   ·simp only [mgetD] at ih ⊢
    simp only [mput,h,if_false,mget?,h2]
    exact ih
theorem yH.put {st:List Interest} {f:List (Int×List Interest)} (hf:yH st f) {k:Int} {x:Interest} (hx:x∈st):yH st (mput f k (mgetD f k []++[x])):=by
 intro j y hy
 rw [xz] at hy
 split at hy
 ·rcases List.mem_append.1 hy with hy | hy
  ·exact hf k y hy
  ·rw [List.mem_singleton.1 hy];exact hx
 ·exact hf j y hy
theorem rX {α : Type} (A B:List α) (x y:α):(A++x::y::B).Perm (y::x::(A++B)):=
 List.perm_middle.trans ((List.Perm.cons x List.perm_middle).trans (List.Perm.swap y x _))
theorem qr {st:List Interest} {path:List Int} {N:Nat} (hN:st.length≤N) (h8:path.length+1≤8):∀ {xs:List Interest} {m:List (Int×Bool)} {q:List fY},(∀ x∈xs,x∈st)→mI st m q→(m.map (·.1)).Nodup →
  (conStep path xs m q).2.length+(N - (conStep path xs m q).1.length)≤q.length+(N - m.length)
 | [],m,q,_,_,_=>Nat.le_refl _
 | x::xs,m,q,hx,hg,hn=>by
  have hp:(fY.mk (path++[x.No]) x.Party).to∈st.map (·.Party):=List.mem_map_of_mem (hx x (List.mem_cons_self ..))
  have h1:=vO (w:=⟨path++[x.No],x.Party⟩) hg hn hp hN
  have h2:=qr (path:=path) hN h8 (xs:=xs) (fun y hy=>hx y (List.mem_cons_of_mem _ hy)) (md hg hp (by simpa using h8)) (qs hn)
  simp only [conStep]
  exact Nat.le_trans h2 h1
end Go.Sg
namespace Go.Sg
set_option linter.unusedVariables false
set_option linter.unusedSimpArgs false
theorem Ad {st:List Interest} {path:List Int} (h8:path.length+1≤8):∀ {xs:List Interest} {m:List (Int×Bool)} {q:List fY},(∀ x∈xs,x∈st)→mI st m q→(m.map (·.1)).Nodup →
  mI st (conStep path xs m q).1 (conStep path xs m q).2∧((conStep path xs m q).1.map (·.1)).Nodup
 | [],m,q,_,hg,hn=>⟨hg,hn⟩
 | x::xs,m,q,hx,hg,hn=>by
  have hp:(fY.mk (path++[x.No]) x.Party).to∈st.map (·.Party):=List.mem_map_of_mem (hx x (List.mem_cons_self ..))
  exact Ad h8 (xs:=xs) (fun y hy=>hx y (List.mem_cons_of_mem _ hy)) (md hg hp (by simpa using h8)) (qs hn)
theorem sk {st:List Interest} {N:Nat} (hN:st.length≤N) (person:Int):∀ (xs:List Interest) (f:List (Int×List Interest)) (m:List (Int×Bool)) (q:List fY),(∀ x∈xs,x∈st)→yH st f→mI st m q→(m.map (·.1)).Nodup→q.length+(N - m.length)≤N →
  yH st (conFill person xs f m q).1∧mI st (conFill person xs f m q).2.1 (conFill person xs f m q).2.2∧((conFill person xs f m q).2.1.map (·.1)).Nodup∧(conFill person xs f m q).2.2.length+(N - (conFill person xs f m q).2.1.length)≤N
 | [],f,m,q,_,hf,hg,hn,hs=>⟨hf,hg,hn,hs⟩
 | x::xs,f,m,q,hx,hf,hg,hn,hs=>by
  have hx':=fun y hy=>hx y (List.mem_cons_of_mem x hy)
  have hx0:=hx x (List.mem_cons_self ..)
  simp only [conFill,Bool.cond_eq_ite]
  split
  ·exact sk hN person xs _ m q hx' (hf.put hx0) hg hn hs
  ·split
   ·have hp:(fY.mk [x.No] x.Party).to∈st.map (·.Party):=List.mem_map_of_mem hx0
    exact sk hN person xs f _ _ hx' hf (md hg hp (by simp)) (qs hn) (Nat.le_trans (vO hg hn hp hN) hs)
   ·exact sk hN person xs f m q hx' hf hg hn hs
theorem qt {st:List Interest} {f:List (Int×List Interest)} (ps:List Int) {N:Nat} (hN:st.length≤N) (hf:yH st f):∀ (n n':Nat) (m:List (Int×Bool)) (q:List fY),mI st m q→(m.map (·.1)).Nodup→q.length+(N - m.length)+1≤n→q.length+(N - m.length)+1≤n'→conLoop ps f n m q=conLoop ps f n' m q
 | 0,_,_,_,_,_,h,_=>absurd h (by omega)
 | _,0,_,_,_,_,_,h=>absurd h (by omega)
 | n+1,n'+1,m,[],_,_,_,_=>rfl
 | n+1,n'+1,m,w::q,hg,hn,h,h'=>by
  rw [List.length_cons] at h h'
  have hg':mI st m q:=⟨hg.1,by have:=hg.2.1;rw [List.length_cons] at this;omega,fun x hx=>hg.2.2 x (List.mem_cons_of_mem _ hx)⟩
  simp only [conLoop,Bool.cond_eq_ite]
  split
  ·rfl
  ·split
   ·exact qt ps hN hf n n' m q hg' hn (by omega) (by omega)
   ·next h8=>
    have h9:=hg.2.2 w (List.mem_cons_self ..)
    have h10:w.path.length+1≤8:=by simp only [beq_iff_eq] at h8;omega
    have hs:=qr (path:=w.path) hN h10 (fun x hx=>hf w.to x hx) hg' hn
    obtain ⟨g1,g2⟩:=Ad (path:=w.path) h10 (fun x hx=>hf w.to x hx) hg' hn
    exact qt ps hN hf n n' _ _ g1 g2 (by omega) (by omega)
theorem AW {l l' st:List Interest} (h:st.length≤l.length) (h':st.length≤l'.length) (person:Int) (ps:List Int):conFind l person ps st=conFind l' person ps st:=by
 obtain ⟨g1,g2,g3,g4⟩:=sk (Nat.le_refl st.length) person st [] [] [] (fun _ h=>h) (fun k x hx=>by simp [mgetD,mget?] at hx) ⟨fun _ h=>(List.not_mem_nil h).elim,Nat.le_refl _,fun _ h=>(List.not_mem_nil h).elim⟩ List.nodup_nil (by simp)
 exact qt ps (Nat.le_refl _) g1 _ _ _ _ g2 g3 (by omega) (by omega)
theorem yJ {l:List Interest} {p:Int} {ps:List Int} {t known:Int} (hk:0≤known) (h:bS l=0):dc (knownI known l) p ps t known=dc l p ps t known:=by
 have e1:=wM (t:=t) hk l
 have e2:cg (knownI known l) p ps t known=cg l p ps t known:=by
  unfold cg
  rw [h,sR (m:=knownI known l) (List.filter_sublist ..) h]
 unfold dc
 rw [e1,e2,AW (l:=knownI known l) (l':=l) (st:=bu l t known)]
 ·rw [← e1]
  obtain ⟨f,e⟩:=tP (knownI known l) t known
  rw [e];exact List.length_filter_le _ _
 ·obtain ⟨f,e⟩:=tP l t known
  rw [e];exact List.length_filter_le _ _
theorem CT {r:Register} {d:Document} {who:List Int} {known t:Int} (hj:fa r=0) (hd:0≤d.At∧d.At < 1099511627776) (ht:0≤t∧t < 1099511627776) (hk:0≤known∧known < 1099511627776):
  bn ⟨knownR known r,d,known⟩ who t=bn ⟨r,d,known⟩ who t:=by
 obtain ⟨d1,d2,d3,d4,d5,d6,d7⟩:=(rD r).1 hj
 unfold bn
 show (bif (decide (t < d.At)||decide (d.Until≤t)) then false else _)=(bif (decide (t < d.At)||decide (d.Until≤t)) then false else _)
 rw [Bool.cond_eq_ite,Bool.cond_eq_ite]
 split
 ·rfl
 ·next hc=>
  simp only [Bool.or_eq_true,decide_eq_true_eq,not_or] at hc
  have eJ:=yS (r:=r) (d:=d) (known:=known) (t:=t) d5 hd ht hk (by omega)
  rw [ES,ES]
  unfold bn.K1
  rw [eJ]
  have eH:∀ p,aD ⟨knownR known r,d,known⟩ p t=aD ⟨r,d,known⟩ p t:=fun p=>by
   rw [ma,ma]
   apply List.map_congr_left
   intro j _
   exact congrArg Prod.fst (zj d1)
  have eF:(fun cD=>bo cD ⟨knownR known r,d,known⟩ t)=fun cD=>bo cD ⟨r,d,known⟩ t:=by
   funext a
   unfold bo
   show (((dc (knownI known r.Interests) a d.Parties t known).2.2 != 0)||(dc (knownI known r.Interests) a d.Parties t known).2.1)=_
   rw [yJ hk.1 d3]
  have eC:cval ⟨knownR known r,d,known⟩ who t=cval ⟨r,d,known⟩ who t:=by
   funext p
   unfold cval
   rw [eH,eF]
  rw [eC]
theorem Ex (s1:Register) (doc:Int) (who:List Int) (person known:Int) (k:Bool):∀ s:List Span,(∀ y∈s,fo (aW s1 doc (dr who ((IntKind.wrap .i64 person).tmod 64)) known).1 y.From=true∧fo (aW s1 doc (dr who ((IntKind.wrap .i64 person).tmod 64)) known).1 (IntKind.wrap .i64 (y.Until - 1))=true)→aM.L5 s1 doc who person known k s=k
 | [],_=>rfl
 | y::s,h=>by
  obtain ⟨h1,h2⟩:=h y (List.mem_cons_self ..)
  simp only [aM.L5,h1,h2,Bool.not_true,Bool.or_self,cond_false]
  exact Ex s1 doc who person known k s fun z hz=>h z (List.mem_cons_of_mem _ hz)
theorem more_true {r:Register} (hs:smR r) (doc:Int) (who:List Int) (person:Int) (hp0:0≤person∧person < 256) (t known:Int):aM r doc who person t known=true:=by
 unfold aM
 rw [E3]
 simp only [Bool.not_true,cond_false]
 cases hr:fB r doc who [t,known] with
 | false=>rfl
 | true=>
  simp only [Bool.not_true,cond_false]
  have q:=HR hr
  have ht:=q.times t (List.mem_cons_self ..)
  have hk:=q.times known (List.mem_cons_of_mem _ (List.mem_cons_self ..))
  obtain ⟨c1,c2,c3,c4,c5,c6,c7⟩:=CW q.check
  have hj:fa r=0:=(rD r).2 ⟨(vz r.Appoints).trans c1,(AT _).trans c2,(sS r.Interests).trans c3,(C2 _).trans c4,CY hs.vers c5,zc c6,(zh _).trans c7⟩
  obtain ⟨hd1,hd2,hd3⟩:=Er q.doc0
  have hd:=vr ((Hm c6).2 _ hd2)
  have hp:=DI q.people
  obtain ⟨s,eT,hg⟩:=wJ (r:=r) (doc:=doc) (who:=who) (known:=known) hj q.doc0 hk hp
  obtain ⟨s2,eT2,hg2⟩:=wJ (r:=knownR known r) (doc:=doc) (who:=who) (known:=known) (AI hj) q.doc0 hk hp
  have eD:dv (knownR known r) doc=dv r doc:=rfl
  rw [eD] at hg2
  have hg2:yI (bn ⟨knownR known r,nthI r.Docs (dv r doc),known⟩ who) s2 1099511627776:=hg2
  generalize hdd:nthI r.Docs (dv r doc)=d at *
  have es:s=s2:=hg.uniq hg2 fun u h1 h2=>(CT hj hd.at_ ⟨h1,h2⟩ hk).symm
  subst es
  rw [EB,List.nil_append]
  unfold aM.K1
  rw [EA,List.nil_append]
  unfold aM.K2
  rw [Ez,List.nil_append]
  unfold aM.K3
  have eT2:aW (Register.mk (knownA known r.Appoints) [] (knownI known r.Interests) [] (knownV known r.Versions) r.Docs []) doc who known=(s,0):=eT2
  rw [eT,eT2,E4,Ey]
  simp only [bne_self_eq_false,Bool.or_self,Bool.not_true,cond_false]
  have ew:IntKind.wrap .i64 person=person:=wrap64 (by omega)
  have hn:0≤(IntKind.wrap .i64 person).tmod 64∧(IntKind.wrap .i64 person).tmod 64 < 64:=by
   rw [ew];have:=Int.tmod_nonneg 64 hp0.1;have:=Int.tmod_lt_of_pos person (show (0:Int) < 64 by omega);omega
  cases hc:who.contains ((IntKind.wrap .i64 person).tmod 64) with
  | true=>rfl
  | false=>
   have hm:(IntKind.wrap .i64 person).tmod 64∉who:=fun h=>by rw [List.contains_iff_mem.2 h] at hc;cases hc
   obtain ⟨hp',hmem⟩:=Iv hp hn hm
   obtain ⟨s3,eT3,hg3⟩:=wJ (r:=r) (doc:=doc) (who:=dr who ((IntKind.wrap .i64 person).tmod 64)) (known:=known) hj q.doc0 hk hp'
   rw [hdd] at hg3
   have hmore:∀ u,0≤u→u < 1099511627776→inS s u=true→fo s3 u=true:=fun u h1 h2 h3=>by
    rw [hg.is u h1 h2] at h3
    have h4:=DT (q:=⟨r,d,known⟩) hs (fun x hx=>(hmem x).2 (.inr hx)) hp' h3
    have e:=hg3.is u h1 h2
    rw [h4] at e
    exact (GG u s3).trans e
   simp only [cond_false]
   unfold aM.K4
   rw [eT3]
   simp only [bne_self_eq_false,cond_false]
   rw [Ex]
   ·unfold aM.K5
    rw [eT,eT3]
    show (!(fo s t)||fo s3 t)=true
    cases hi:fo s t with
    | false=>rfl
    | true=>rw [hmore t ht.1 ht.2 ((GG t s).symm.trans hi)];rfl
   ·intro y hy
    rw [eT] at hy
    obtain ⟨b1,b2,b3⟩:=Et s (-1) hg.ok y hy
    rw [eT3,wrap64 (by omega)]
    exact ⟨hmore _ (by omega) (by omega) (rG hy (Int.le_refl _) b2),hmore _ (by omega) (by omega) (rG hy (by omega) (by omega))⟩
end Go.Sg
namespace Go.Sg
theorem U.{u} {α : Sort u} {a:α}:a=a:=rfl
theorem kr {p:Prop} (h:p:=by kernel_rfl):p:=h
theorem ob {p:Prop} (h:p:=by first | assumption | omega | (simp only [] ;assumption) | (simp only [decide_eq_true_eq,decide_eq_false_iff_not,Bool.and_eq_true,Bool.or_eq_true,Bool.not_eq_true',Bool.not_eq_false',Bool.and_eq_false_iff,Bool.or_eq_false_iff,beq_iff_eq,beq_eq_false_iff_ne,bne_iff_ne,bne_eq_false_iff_eq,List.length_append,List.length_cons,List.length_nil,List.length_drop] at *;omega)):p:=h
theorem lo {p:Prop} (h:p:=by simp only [List.length_append,List.length_cons,List.length_nil,List.length_take,List.length_drop];omega):p:=h
theorem ap {p:Prop} (h:p:=by first | rfl | (simp only [List.append_assoc,List.cons_append,List.nil_append,List.append_nil];done) | (simp only [List.append_assoc,List.cons_append,List.nil_append,List.append_nil];rfl) | (rw [List.append_nil] <;> rfl)):p:=h
theorem lc {p:Prop} (h:p:=by first | omega | (simp only [List.length_nil,List.length_cons] at *;omega)):p:=h
theorem rd {p:Prop} (h:p:=by repeat (first | exact trivial | refine ⟨rfl,?_⟩)):p:=h
theorem jn {h:HF} {K L:LH} (hs:K.Sublist L:=by repeat (first | exact List.Sublist.refl _ | exact List.nil_sublist _ | exact List.sublist_append_left _ _ | refine List.Sublist.cons_cons _ ?_ | refine List.Sublist.cons _ ?_)):Jst h K h L:=AJ hs
theorem js {K L:LH} (hs:K.Sublist L:=by repeat (first | exact List.Sublist.refl _ | exact List.nil_sublist _ | exact List.sublist_append_left _ _ | refine List.Sublist.cons_cons _ ?_ | refine List.Sublist.cons _ ?_)):K.Sublist L:=hs
theorem cb {a b:Bool} (h:a=b):Value.bool a=Value.bool b:=congrArg Value.bool h
theorem cs {a b:Bool} (h:a=b):Value.bool b=Value.bool a:=congrArg Value.bool h.symm
theorem ci {a b:Int} (h:a=b):Value.int .i64 b=Value.int .i64 a:=congrArg (Value.int .i64) h.symm
abbrev O (l:List Value) (t:Nat):Obj:=Obj.cells l.toArray t (0,0)
abbrev Y (x:Int):Value:=.int .u8 x
abbrev Q (b:Nat):Value:=.pointer (some ⟨b,0,none⟩)
abbrev I (x:Int):Value:=.int .i64 x
theorem HF.le.t {a b c:HF} (x:a.le b) (y:b.le c):a.le c:=HF.le_trans x y
section
variable {P:Program} {b:Frame} {n:Nat} {k:List Item} {F:List Frame→(Machine→Prop)→Prop} {ds:List Deferred} {X:Cx}
theorem tf (i:Nat) {l:List Oper} {h1:HF} {K:LH} {m d:Nat} {oi:Oper} {v:Value} {dn:List Nat} {e:Env} {h:HF} {L:LH}
  (hi:nth l i=some oi) (hd:oi.dst=some d)
  (hr:∀ h' L',Jst h1 K h' L'→∀ w,St X h' L' w→(execOp e.ev oi).run P w=.ok (.value v) w)
  (t:TA P b n l.toArray k F ds X (Jst h1 K) m (i::dn) (upd e d v) h L) (hsep:sepAll l.toArray=true:=by assumption) (hJ:Jst h1 K h L:=by exact jn) (hn:(nexts l.toArray dn).contains i=true:=by kernel_rfl) (hg:guardB l.toArray e oi=true:=by rfl):TA P b n l.toArray k F ds X (Jst h1 K) (m+1) dn e h L:=
 nL i hsep hJ hi hd hn hg hr t
theorem tm (i:Nat) {l:List Oper} {h1:HF} {K:LH} {m d:Nat} {x:Operand} {ty:TypeId} {pos:String} {af:Array Edge} {g:Option (Nat×Bool)} {dn:List Nat} {e:Env} {h:HF} {L:LH}
  (hi:nth l i=some ⟨some d,.move x,ty,pos,af,g⟩)
  (t:TA P b n l.toArray k F ds X (Jst h1 K) m (i::dn) (upd e d (e.ev x)) h L) (hsep:sepAll l.toArray=true:=by assumption) (hJ:Jst h1 K h L:=by exact jn) (hn:(nexts l.toArray dn).contains i=true:=by kernel_rfl) (hg:guardB l.toArray e ⟨some d,.move x,ty,pos,af,g⟩=true:=by rfl):TA P b n l.toArray k F ds X (Jst h1 K) (m+1) dn e h L:=
 nL i hsep hJ hi rfl hn hg (fun _ _ _=>Gn) t
theorem tk (i:Nat) {l:List Oper} {h1:HF} {K:LH} {m d:Nat} {oi:Oper} {dn:List Nat} {e:Env} {h:HF} {L:LH}
  (hi:nth l i=some oi) (hd:oi.dst=some d)
  (t:TA P b n l.toArray k F ds X (Jst h1 K) m (i::dn) (upd e d undef) h L) (hsep:sepAll l.toArray=true:=by assumption) (hJ:Jst h1 K h L:=by exact jn) (hn:(nexts l.toArray dn).contains i=true:=by kernel_rfl) (hg:guardB l.toArray e oi=false:=by rfl):TA P b n l.toArray k F ds X (Jst h1 K) (m+1) dn e h L:=
 HH i hsep hJ hi hd hn hg t
theorem tn (i:Nat) {l:List Oper} {h1:HF} {K:LH} {m:Nat} {oi:Oper} {dn:List Nat} {e:Env} {h:HF} {L:LH} (hi:nth l i=some oi)
  (t:Stp P b n l.toArray F ds X oi e h L fun e' h' L'=>Jst h1 K h' L'∧TA P b n l.toArray k F ds X (Jst h1 K) m (i::dn) e' h' L') (hn:nexts l.toArray dn=[i]:=by kernel_rfl):TA P b n l.toArray k F ds X (Jst h1 K) (m+1) dn e h L:=
 In i hn hi t
theorem sr {id:Nat} {l:List Oper} {y:Code} {e:Env} {h:HF} {L:LH} (t:TO P b n l.toArray l (.code y::k) F e ds X h L):TT P b n (.code (.seq (.region id l.toArray false) y)::k) F e ds X h L:=ad (ah t)
theorem an {ops:Array Oper} {d:Nat} {x:Operand} {ty:TypeId} {pos:String} {af:Array Edge} {g:Option (Nat×Bool)} {e:Env} {h:HF} {L:LH} (t:TT P b n k F (upd e d (e.ev x)) ds X h L) (hd:Nat.blt d n=true:=by rfl) (hg:guardB ops e ⟨some d,.assign x,ty,pos,af,g⟩=true:=by rfl):TO P b n ops [⟨some d,.assign x,ty,pos,af,g⟩] k F e ds X h L:=bi (ac t) hd hg
theorem kq {ops:Array Oper} {l:List Oper} {d d':Nat} {op op':Op} {ty ty':TypeId} {pos pos':String} {af af':Array Edge} {g g':Option (Nat×Bool)} {e:Env} {h:HF} {L:LH} (t:TO P b n ops l k F (upd (upd e d undef) d' undef) ds X h L) (hd:Nat.blt d n=true:=by rfl) (hg:guardB ops e ⟨some d,op,ty,pos,af,g⟩=false:=by rfl)
  (hd':Nat.blt d' n=true:=by rfl) (hg':guardB ops (upd e d undef) ⟨some d',op',ty',pos',af',g'⟩=false:=by rfl):TO P b n ops (⟨some d,op,ty,pos,af,g⟩::⟨some d',op',ty',pos',af',g'⟩::l) k F e ds X h L:=bY (bY t hd' hg') hd hg
theorem tq {ops:Array Oper} {l:List Oper} {e:Env} {h:HF} {L:LH} (m:Nat) (sl:List (Nat×Value)) (t':(∀ e',mH e' sl→TO P b n ops (l.drop m) k F e' ds X h L)→TO P b n ops l k F e ds X h L) (hk:∀ e',TO P b n ops (l.drop m) k F (upds e' sl) ds X h L):TO P b n ops l k F e ds X h L:=Im m sl hk t'
theorem tu {ops:Array Oper} {h1 h2:HF} {K:LH} (hle:h1.le h2) {m:Nat} {dn:List Nat} {e:Env} {h:HF} {L:LH} (t:TA P b n ops k F ds X (Jst h2 K) m dn e h L):TA P b n ops k F ds X (Jst h1 K) m dn e h L:=vl hle (fun _ hp=>hp) t
end
theorem jl {h h2:HF} {K L:LH} (hle:h.le h2) (hs:K.Sublist L:=by repeat (first | exact List.Sublist.refl _ | exact List.nil_sublist _ | exact List.sublist_append_left _ _ | refine List.Sublist.cons_cons _ ?_ | refine List.Sublist.cons _ ?_)):Jst h K h2 L:=⟨hle,fun _ hp=>hs.subset hp⟩
theorem sw {p:Prop} (h:p:=by first | exact fun w hw=>hw | (intro w hw;first | simpa only [List.append_assoc,List.cons_append,List.nil_append,List.append_nil] using hw | (simp only [List.append_assoc,List.cons_append,List.nil_append,List.append_nil] at hw ⊢;exact hw))):p:=h
end Go.Sg
namespace Go.Sg
open Go.Proofs
abbrev eG := @Tryz.underlying31
abbrev gg := @Tryz.underlying64
abbrev kx := @Tryz.underlying3
abbrev jV := @Tryz.underlying63
abbrev kV := @Tryz.underlying62
abbrev lu := @Tryz.underlying26
abbrev lB := @Tryz.underlying27
abbrev lA := @Tryz.func244
abbrev lz := @Tryz.func269
abbrev mJ := @Tryz.underlying24
abbrev kW := @Tryz.underlying120
abbrev lY := @Tryz.underlying22
abbrev mX := @Tryz.underlying34
abbrev nJ := @Tryz.call265
abbrev tL := @Tryz.underlying9
abbrev qT := @Tryz.call172
abbrev qS := @Tryz.underlying98
abbrev sJ := @Tryz.underlying23
abbrev sI := @Tryz.underlying25
abbrev sH := @Tryz.underlying28
abbrev sG := @Tryz.call242
abbrev wE := @Tryz.func7
abbrev tK := @Tryz.call103
abbrev vj := @Tryz.call145
abbrev tz_24 := @Tryz.underlying4
abbrev wD := @Tryz.underlying100
abbrev wC := @Tryz.underlying101
abbrev zu := @Tryz.underlying46
abbrev zt := @Tryz.call148
abbrev zr := @Tryz.func247
abbrev zq := @Tryz.func275
abbrev zp := @Tryz.func217
abbrev zo := @Tryz.func98
abbrev zn := @Tryz.call10
abbrev zm := @Tryz.call24
abbrev zl := @Tryz.func253
abbrev IY := @Tryz.underlying5
abbrev Ei := @Tryz.underlying30
abbrev Bq := @Tryz.call90
abbrev Bp := @Tryz.call169
abbrev Bo := @Tryz.call218
abbrev Bn := @Tryz.func62
abbrev Bm := @Tryz.func48
abbrev Bl := @Tryz.underlying142
abbrev Bk := @Tryz.func146
abbrev Bj := @Tryz.func44
abbrev Bi := @Tryz.underlying127
abbrev Bh := @Tryz.func14
abbrev Bg := @Tryz.call181
abbrev Bf := @Tryz.call230
abbrev Be := @Tryz.call194
abbrev Eh := @Tryz.underlying59
abbrev Eg := @Tryz.underlying68
abbrev Ef := @Tryz.underlying207
abbrev Ee := @Tryz.underlying212
abbrev Ed := @Tryz.call219
abbrev Ec := @Tryz.func215
abbrev Eb := @Tryz.func216
abbrev Ea := @Tryz.func214
abbrev D9 := @Tryz.func94
abbrev D8 := @Tryz.call177
abbrev FY := @Tryz.underlying215
abbrev D7 := @Tryz.func84
abbrev D6 := @Tryz.func45
abbrev D5 := @Tryz.underlying145
abbrev D4 := @Tryz.func10
abbrev D3 := @Tryz.func39
abbrev D2 := @Tryz.call14
abbrev D1 := @Tryz.func25
abbrev D0 := @Tryz.func113
abbrev DZ := @Tryz.call187
abbrev DY := @Tryz.func189
abbrev DX := @Tryz.call33
abbrev FX := @Tryz.underlying61
abbrev FW := @Tryz.func51
abbrev FV := @Tryz.func100
abbrev FU := @Tryz.func52
abbrev FT := @Tryz.func53
abbrev FS := @Tryz.call176
abbrev FQ := @Tryz.func54
abbrev FP := @Tryz.func265
abbrev FO := @Tryz.call221
abbrev FN := @Tryz.func241
abbrev FM := @Tryz.func159
abbrev FL := @Tryz.func55
abbrev FK := @Tryz.func56
abbrev FJ := @Tryz.func57
abbrev FI := @Tryz.func109
abbrev FH := @Tryz.func209
abbrev FG := @Tryz.underlying203
abbrev FF := @Tryz.func212
abbrev FE := @Tryz.underlying159
abbrev tz_92 := @Tryz.func208
abbrev FD := @Tryz.func95
abbrev FC := @Tryz.func248
abbrev FB := @Tryz.func160
abbrev FA := @Tryz.call97
abbrev Fz := @Tryz.func164
abbrev Fy := @Tryz.func140
abbrev Fx := @Tryz.func150
abbrev Dy := @Tryz.func47
abbrev Dx := @Tryz.func12
abbrev Dw := @Tryz.func9
abbrev Dv := @Tryz.func112
abbrev Du := @Tryz.func67
abbrev Dt := @Tryz.func68
abbrev Ds := @Tryz.func114
abbrev Dr := @Tryz.func69
abbrev Dq := @Tryz.func115
abbrev Dp := @Tryz.func70
abbrev Do := @Tryz.func227
abbrev Dn := @Tryz.func268
abbrev Dm := @Tryz.func252
abbrev Dl := @Tryz.func228
abbrev Dk := @Tryz.func229
abbrev Dj := @Tryz.func231
abbrev Di := @Tryz.func232
abbrev Dh := @Tryz.func190
abbrev Dg := @Tryz.func116
abbrev Df := @Tryz.func71
abbrev De := @Tryz.func72
abbrev Dd := @Tryz.call118
abbrev Dc := @Tryz.func73
abbrev Db := @Tryz.func31
abbrev Da := @Tryz.call20
end Go.Sg
