import Derived.KernelRfl
import Derived.Test.YtngiefchigcphaaGreatDoorProg
import Derived.Test.YtngiefchigcphaaGreatDoorW3
/- A part of the proof of AsofSmallest. -/
set_option linter.unusedVariables false
set_option linter.unusedSimpArgs false
set_option maxRecDepth 100000
namespace Go.Sg
theorem F2:mV=true:=by kernel_rfl
theorem F1:smR bM:=by simp [smR,smV,smP,bM,Expr.dep,Expr.depL]
theorem IM:smR (Register.mk [] [] [] [] [] [] []):=by simp [smR,smV]
theorem IL:smR (Register.mk [(Appoint.mk 0 0 0 0 0 0 false)] [] [] [] [] [] []):=by simp [smR,smV]
theorem IN (a b:Interest):smR (Register.mk bM.Appoints bM.Deputies [a,b] bM.Budgets bM.Versions bM.Docs bM.Approvals):=by simp [smR,smV,smP,bM,Expr.dep,Expr.depL]
theorem Hc:smR (Register.mk bM.Appoints bM.Deputies bM.Interests bM.Budgets [] bM.Docs bM.Approvals):=by simp [smR,smV,smP,bM,Expr.dep,Expr.depL]
theorem lY {p:Prop} (h:p:=by first | exact F1 | exact IM | exact IL | exact IN _ _ | exact Hc):p:=h
theorem tV {P:Program} {f:FuncId} {args:List Value} {h:HF} {v v':Value} (t:Ret P f args h v) (e:v=v'):Ret P f args h v':=e ▸ t
theorem CB (k:Bool):∀ l:List Int,eS.L1 k l=true↔(∀ x∈l,cp x=true)∧k=true
 | []=>by simp [eS.L1]
 | y::l=>by
  simp only [eS.L1,Bool.cond_eq_ite,List.mem_cons,forall_eq_or_imp,Bool.not_eq_true']
  have ih:=CB k l
  cases cp y <;> simp [ih]
structure JZ (r:Register) (doc:Int) (who l:List Int):Prop where
 times:∀ x∈l,0≤x∧x < 1099511627776
 check:fZ r=0
 doc0:0≤ce r doc
 people:eL who=true
theorem IT {r:Register} {doc:Int} {who l:List Int} (h:eS r doc who l=true):JZ r doc who l:=by
 unfold eS at h
 obtain ⟨h1,h2⟩:=(CB _ _).1 h
 simp only [eS.K1,Bool.and_eq_true,beq_iff_eq,decide_eq_true_eq] at h2
 exact ⟨fun x hx=>by have:=h1 x hx;simpa [cp] using this,h2.1.1.2,h2.1.2,h2.2⟩
theorem Fw (no:Int):∀ (l:List Document) (i:Nat),0≤ce.L1 no ce.K1 l i→∃ (j:Nat) (d:Document),l[j]? = some d∧d.No=no∧ce.L1 no ce.K1 l i=((i+j:Nat):Int)
 | [],i,h=>by simp [ce.L1,ce.K1] at h
 | y::l,i,h=>by
  simp only [ce.L1,Bool.cond_eq_ite,beq_iff_eq] at h ⊢
  split
  ·next e=>exact ⟨0,y,rfl,e,rfl⟩
  ·next e=>
   rw [if_neg e] at h
   obtain ⟨j,d,h1,h2,h3⟩:=Fw no l (i+1) h
   exact ⟨j+1,d,by simpa using h1,h2,by rw [h3];congr 1;omega⟩
theorem Fv {r:Register} {no:Int} (h:0≤ce r no):ce r no < (r.Docs.length:Int)∧nthI r.Docs (ce r no)∈r.Docs∧(nthI r.Docs (ce r no)).No=no:=by
 obtain ⟨j,d,h1,h2,h3⟩:=Fw no r.Docs 0 h
 rw [Nat.zero_add] at h3
 have hl:=(List.getElem?_eq_some_iff.1 h1).1
 have e:ce r no=(j:Int):=h3
 have hb:0≤ce r no∧ce r no < (r.Docs.length:Int):=by omega
 have hg:=df hb
 rw [show (ce r no).toNat=j from by omega,h1] at hg
 have hd:=Option.some.inj hg
 exact ⟨hb.2,kO hb,by rw [← hd];exact h2⟩
theorem wQ {r:Register} (h:fZ r=0):dH r.Appoints=0∧eW r.Deputies=0∧eA r.Interests=0∧fh r.Budgets=0∧cT r.Versions=0∧e7 r.Docs=0∧fg r.Approvals=0:=by
 simp only [fZ,Bool.cond_eq_ite,Bool.or_eq_true,bne_iff_ne] at h
 split at h
 ·simp at h
 ·next h1=>
  split at h
  ·simp at h
  ·next h2=>
   simp only [not_or,Classical.not_not] at h1 h2
   exact ⟨h1.1.1.1,h1.1.1.2,h1.1.2,h1.2,h2.1.1,h2.1.2,h2.2⟩
def pcs:List Int→List Span
 | []=>[]
 | [y]=>bif decide (y < 1099511627776) then [⟨y,1099511627776⟩] else []
 | y::z::l=>bif decide (y < min 1099511627776 z) then ⟨y,min 1099511627776 z⟩::pcs (z::l) else pcs (z::l)
theorem Hv (L:List Int):∀ (l pre:List Int),L=pre++l→aS.L1 L [] l pre.length=pcs l
 | [],_,_=>rfl
 | [y],pre,h=>by
  have hl:L.length=pre.length+1:=by rw [h];simp
  have e:decide ((((pre.length+1):Nat):Int) < ((L.length:Nat):Int))=false:=by simp;omega
  simp only [aS.L1,e,cond_false,pcs]
 | y::z::l,pre,h=>by
  have hl:L.length=pre.length+(l.length+2):=by rw [h];simp
  have e:decide ((((pre.length+1):Nat):Int) < ((L.length:Nat):Int))=true:=by simp;omega
  have hz:nthI L (((pre.length+1):Nat):Int)=z:=by
   have hb:0≤(((pre.length+1):Nat):Int)∧(((pre.length+1):Nat):Int) < (L.length:Int):=by omega
   have hg:=df hb
   rw [show ((((pre.length+1):Nat):Int)).toNat=pre.length+1 from by omega,h,List.getElem?_append_right (by omega)] at hg
   simp at hg;rw [h];exact hg.symm
  have ih:=Hv L (z::l) (pre++[y]) (by rw [h];simp)
  rw [List.length_append,List.length_cons,List.length_nil,Nat.zero_add] at ih
  simp only [aS.L1] at ih ⊢
  rw [e,hz]
  simp only [cond_true,pcs]
  rw [ih]
theorem JD (l:List Int):aS l=pcs l:=Hv l l [] rfl
def okS:List Span→Int→Prop
 | [],_=>True
 | x::l,c=>c < x.From∧x.From < x.Until∧x.Until≤1099511627776∧okS l x.Until
def lastU:List Span→Int→Int
 | [],c=>c
 | x::l,_=>lastU l x.Until
theorem uU:∀ (a:List Span) (x:Span) (c:Int),okS (a++[x]) c↔okS a c∧lastU a c < x.From∧x.From < x.Until∧x.Until≤1099511627776
 | [],x,c=>by simp [okS,lastU]
 | y::a,x,c=>by
  simp only [List.cons_append,okS,lastU,uU a x y.Until]
  constructor
  ·rintro ⟨a,b,c,d,e⟩;exact ⟨⟨a,b,c,d⟩,e⟩
  ·rintro ⟨⟨a,b,c,d⟩,e⟩;exact ⟨a,b,c,d,e⟩
theorem oy:∀ (a:List Span) (x:Span) (c:Int),lastU (a++[x]) c=x.Until
 | [],x,c=>rfl
 | y::a,x,c=>oy a x y.Until
theorem Jg (t:Int):∀ s:List Span,dY.L1 t dY.K1 s=s.any fun x=>decide (x.From≤t)&&decide (t < x.Until)
 | []=>rfl
 | x::s=>by
  simp only [dY.L1,List.any_cons,Jg t s]
  cases decide (x.From≤t)&&decide (t < x.Until) <;> rfl
def inS (s:List Span) (t:Int):Bool:=s.any fun x=>decide (x.From≤t)&&decide (t < x.Until)
theorem yA (a:List Span) (x:Span) (t:Int):inS (a++[x]) t=(inS a t||(decide (x.From≤t)&&decide (t < x.Until))):=by simp [inS]
theorem EI:∀ (a:List Span) (c t:Int),okS a c→lastU a c≤t→c≤lastU a c∧inS a t=false
 | [],c,t,_,_=>⟨Int.le_refl _,rfl⟩
 | x::a,c,t,⟨h1,h2,h3,h4⟩,ht=>by
  obtain ⟨k1,k2⟩:=EI a x.Until t h4 ht
  refine ⟨by simp only [lastU];omega,?_⟩
  simp only [lastU] at ht
  have:decide (t < x.Until)=false:=by simp;omega
  simp only [inS,List.any_cons,this,Bool.and_false,Bool.false_or] at k2 ⊢
  exact k2
structure EV (f:Int→Bool) (acc:List Span) (c:Int):Prop where
 ok:okS acc (-1)
 le:lastU acc (-1)≤c
 pos:0≤c
 is:∀ t,0≤t→t < c→inS acc t=f t
def stepT (f:Int→Bool) (acc:List Span) (s:Span):List Span:=
 bif !(f s.From) then acc else bif decide (0 < ((acc.length:Nat):Int))&&((nthI acc (((acc.length:Nat):Int) - 1)).Until==s.From) then acc.set ((((acc.length:Nat):Int) - 1):Int).toNat (Span.mk (nthI acc (((acc.length:Nat):Int) - 1)).From s.Until) else acc++[s]
theorem EV.step {f:Int→Bool} {acc:List Span} {c u:Int} (g:EV f acc c) (hu:c < u) (hE:u≤1099511627776) (hf:∀ t,c≤t→t < u→f t=f c):EV f (stepT f acc ⟨c,u⟩) u:=by
 have g3:=g.pos
 have hlow:∀ t,c≤t→inS acc t=false:=fun t ht=>(EI acc (-1) t g.ok (Int.le_trans g.le ht)).2
 unfold stepT
 cases hfc:f c with
 | false=>
  refine ⟨g.ok,(by show lastU acc (-1)≤u;have:=g.le;omega),by omega,fun t h0 ht=>?_⟩
  by_cases h:t < c
  ·exact g.is t h0 h
  ·rw [hf t (by omega) ht,hfc];exact hlow t (by omega)
 | true=>
  simp only [Bool.not_true,cond_false]
  rcases List.eq_nil_or_concat acc with rfl | ⟨a,x,e⟩
  ·refine ⟨⟨by show (-1:Int) < c;omega,hu,hE,trivial⟩,Int.le_refl _,by omega,fun t h0 ht=>?_⟩
   have hn:=g.is
   by_cases h:t < c
   ·rw [← g.is t h0 h]
    have:decide (c≤t)=false:=by simp;omega
    show (decide (c≤t)&&decide (t < u)||false)=_
    rw [this];rfl
   ·rw [hf t (by omega) ht,hfc]
    have h1:decide (c≤t)=true:=by simp;omega
    have h2:decide (t < u)=true:=by simpa using ht
    show (decide (c≤t)&&decide (t < u)||false)=_
    rw [h1,h2];rfl
  ·rw [List.concat_eq_append] at e
   subst e
   have hlen:(((a++[x]).length:Nat):Int) - 1=(a.length:Int):=by simp
   have hx:nthI (a++[x]) (a.length:Int)=x:=by
    have hb:0≤((a.length:Nat):Int)∧((a.length:Nat):Int) < ((a++[x]).length:Int):=by simp;omega
    have hg:=df hb
    rw [show ((a.length:Nat):Int).toNat=a.length from by omega] at hg
    simpa using hg.symm
   have hset:(a++[x]).set a.length (Span.mk x.From u)=a++[Span.mk x.From u]:=by simp
   have hpos:decide (0 < (((a++[x]).length:Nat):Int))=true:=by rw [decide_eq_true_eq];rw [List.length_append,List.length_cons];omega
   have ok':=(uU a x (-1)).1 g.ok
   have le':=g.le
   rw [oy] at le'
   have inx:∀ t,inS a t=false∨t < x.From:=fun t=>by
    by_cases h:lastU a (-1)≤t
    ·exact .inl (EI a (-1) t ok'.1 h).2
    ·exact .inr (by omega)
   rw [hlen,hx,hpos,show ((a.length:Nat):Int).toNat=a.length from by omega,hset,Bool.true_and]
   cases he:x.Until==c with
   | true=>
    have he':x.Until=c:=by simpa using he
    refine ⟨(uU a _ (-1)).2 ⟨ok'.1,ok'.2.1,by show x.From < u;omega,hE⟩,by rw [show cond true _ _=a++[Span.mk x.From u] from rfl,oy];exact Int.le_refl _,by omega,fun t h0 ht=>?_⟩
    show inS (a++[Span.mk x.From u]) t=f t
    rw [yA]
    by_cases h:t < c
    ·rw [← g.is t h0 h,yA]
     have h1:decide (t < u)=true:=by simp;omega
     have h2:decide (t < x.Until)=true:=by simp;omega
     show (inS a t||(decide (x.From≤t)&&decide (t < u)))=_
     rw [h1,h2]
    ·rw [hf t (by omega) ht,hfc]
     have h1:decide (t < u)=true:=by simpa using ht
     have h2:decide (x.From≤t)=true:=by simp;omega
     show (inS a t||(decide (x.From≤t)&&decide (t < u)))=_
     rw [h1,h2];simp
   | false=>
    have he':x.Until≠c:=by simpa using he
    refine ⟨(uU _ _ (-1)).2 ⟨g.ok,by rw [oy];show x.Until < c;omega,hu,hE⟩,by rw [show cond false _ _=(a++[x])++[Span.mk c u] from rfl,oy];exact Int.le_refl _,by omega,fun t h0 ht=>?_⟩
    show inS ((a++[x])++[Span.mk c u]) t=f t
    rw [yA]
    by_cases h:t < c
    ·rw [← g.is t h0 h]
     have h2:decide (c≤t)=false:=by simp;omega
     show (_||(decide (c≤t)&&decide (t < u)))=_
     rw [h2];simp
    ·rw [hf t (by omega) ht,hfc,hlow t (by omega)]
     have h1:decide (t < u)=true:=by simpa using ht
     have h2:decide (c≤t)=true:=by simp;omega
     show (_||(decide (c≤t)&&decide (t < u)))=_
     rw [h1,h2];rfl
theorem Dh {f:Int→Bool}:∀ (y:Int) (l:List Int) (acc:List Span),(y::l).Pairwise (· < ·)→y < 1099511627776→EV f acc y→(∀ t u,y≤t→t≤u→(∀ z∈l,t < z→u < z)→f u=f t)→EV f ((pcs (y::l)).foldl (stepT f) acc) 1099511627776
 | y,[],acc,hp,hy,g,hf=>by
  have:decide (y < 1099511627776)=true:=by simpa using hy
  simp only [pcs,this,cond_true,List.foldl]
  exact g.step hy (Int.le_refl _) fun t h1 h2=>hf y t (Int.le_refl _) h1 (fun z hz=>(List.not_mem_nil hz).elim)
 | y,z::l,acc,hp,hy,g,hf=>by
  obtain ⟨hp1,hp2⟩:=List.pairwise_cons.1 hp
  have hyz:=hp1 z (List.mem_cons_self ..)
  have hz2:=List.pairwise_cons.1 hp2
  have e:decide (y < min 1099511627776 z)=true:=by simp;omega
  have cst:∀ t,y≤t→t < min 1099511627776 z→f t=f y:=fun t h1 h2=>hf y t (Int.le_refl _) h1 (fun w hw _=>by
   rcases List.mem_cons.1 hw with rfl | hw
   ·omega
   ·have:=hz2.1 w hw;omega)
  simp only [pcs,e,cond_true,List.foldl]
  have g2:=g.step (u:=min 1099511627776 z) (by omega) (by omega) cst
  by_cases hzE:z < 1099511627776
  ·rw [show min 1099511627776 z=z from by omega] at g2 ⊢
   exact Dh z l _ hp2 hzE g2 fun t u h1 h2 h3=>hf t u (by omega) h2 (fun w hw h4=>by
    rcases List.mem_cons.1 hw with rfl | hw
    ·omega
    ·exact h3 w hw h4)
  ·rw [show min 1099511627776 z=1099511627776 from by omega] at g2 ⊢
   have hnil:∀ (l:List Int) (z:Int),(z::l).Pairwise (· < ·)→¬ z < 1099511627776→pcs (z::l)=[]:=by
    intro l
    induction l with
    | nil=>intro z _ h;simp [pcs,h]
    | cons w l ih=>
     intro z hp h
     have h1:=(List.pairwise_cons.1 hp).1 w (List.mem_cons_self ..)
     have e:decide (z < min 1099511627776 w)=false:=by simp;omega
     simp only [pcs,e,cond_false]
     exact ih w (List.pairwise_cons.1 hp).2 (by omega)
   rw [hnil l z hp2 hzE]
   exact g2
theorem zq (r:Register) (doc:Int) (who:List Int) (known:Int):∀ (ps acc:List Span),
  bd.L1 r doc who known bd.K1 ps acc=(ps.foldl (stepT (aX (cU r doc known).1 who)) acc,0)
 | [],acc=>rfl
 | p::ps,acc=>by
  simp only [bd.L1,List.foldl_cons,zq r doc who known ps]
  unfold stepT
  cases aX (cU r doc known).1 who p.From
  ·rfl
  ·simp only [Bool.not_true,cond_false]
   cases (decide (0 < ((acc.length:Nat):Int))&&((nthI acc (((acc.length:Nat):Int) - 1)).Until==p.From)) <;> rfl
theorem qh {α : Type} (g:α→Int):∀ (l:List α) (m:List (Int×Bool)) (x:Int),x∈(l.foldl (fun m y=>mput m (g y) true) m).map (·.1)↔x∈m.map (·.1)∨∃ y∈l,x=g y
 | [],m,x=>by simp
 | y::l,m,x=>by
  rw [List.foldl_cons,qh g l,mU]
  simp only [List.mem_cons,exists_eq_or_imp]
  constructor
  ·rintro ((h | h) | h)
   ·exact .inr (.inl h)
   ·exact .inl h
   ·exact .inr (.inr h)
  ·rintro (h | h | h)
   ·exact .inl (.inr h)
   ·exact .inl (.inl h)
   ·exact .inr h
theorem mX {α : Type} (g:α→Int):∀ (l:List α) (m:List (Int×Bool)),(m.map (·.1)).Nodup→((l.foldl (fun m y=>mput m (g y) true) m).map (·.1)).Nodup
 | [],m,h=>h
 | y::l,m,h=>mX g l _ (iW _ _ h)
theorem vw (q:aH):∀ (l:List Version) (m:List (Int×Bool)) (x:Int),x∈(changeV q l m).map (·.1)↔x∈m.map (·.1)∨∃ v∈l,x=v.At∨∃ y∈v.Policy.Rules,x=q.doc.At+y.Think
 | [],m,x=>by simp [changeV]
 | v::l,m,x=>by
  show x∈(changeV q l (changeR q v.Policy.Rules (mput m v.At true))).map (·.1)↔_
  rw [vw q l]
  unfold changeR
  rw [qh,mU]
  simp only [List.mem_cons,exists_eq_or_imp]
  constructor
  ·rintro (((h | h) | h) | h)
   ·exact .inr (.inl (.inl h))
   ·exact .inl h
   ·exact .inr (.inl (.inr h))
   ·exact .inr (.inr h)
  ·rintro (h | (h | h) | h)
   ·exact .inl (.inl (.inr h))
   ·exact .inl (.inl (.inl h))
   ·exact .inl (.inr h)
   ·exact .inr h
theorem tO (q:aH):∀ (l:List Version) (m:List (Int×Bool)),(m.map (·.1)).Nodup→((changeV q l m).map (·.1)).Nodup
 | [],m,h=>h
 | v::l,m,h=>tO q l _ (mX _ _ _ (iW _ _ h))
def Change (q:aH) (x:Int):Prop:=
 x=0∨x=q.doc.At∨x=q.doc.Until∨(∃ a∈q.Register.Appoints,x=a.At)∨(∃ a∈q.Register.Interests,x=a.At)∨∃ v∈q.Register.Versions,x=v.At∨∃ y∈v.Policy.Rules,x=q.doc.At+y.Think
theorem DK (q:aH) (x:Int):x∈(changeM q).map (·.1)↔Change q x:=by
 unfold changeM Change
 rw [vw,qh (fun a:Interest=>a.At),qh (fun a:Appoint=>a.At),mU,mU,mU]
 simp only [List.map_nil,List.not_mem_nil,or_false]
 generalize (∃ y,y∈q.Register.Appoints∧x=y.At)=A
 generalize (∃ y,y∈q.Register.Interests∧x=y.At)=B
 generalize (∃ v,v∈q.Register.Versions∧(x=v.At∨∃ y,y∈v.Policy.Rules∧x=q.doc.At+y.Think))=C
 constructor
 ·rintro ((((h | h | h) | h) | h) | h) <;> simp [h]
 ·rintro (h | h | h | h | h | h) <;> simp [h]
theorem BT (q:aH):((changeM q).map (·.1)).Nodup:=by
 unfold changeM
 exact tO q _ _ (mX _ _ _ (mX _ _ _ (iW _ _ (iW _ _ (iW _ _ List.nodup_nil)))))
theorem Aj {l:List Int} (h:l.Pairwise (·≤·)) (hn:l.Nodup):l.Pairwise (· < ·):=by
 induction l with
 | nil=>exact List.Pairwise.nil
 | cons x l ih=>
  rw [List.pairwise_cons] at h ⊢
  rw [List.nodup_cons] at hn
  exact ⟨fun y hy=>by have:=h.1 y hy;have:x≠y:=fun e=>hn.1 (e ▸ hy);omega,ih h.2 hn.2⟩
theorem Dg {q:aH} {f:Int→Bool} (hpos:∀ x,Change q x→0≤x) (hf:∀ t u,0≤t→t≤u→(∀ z,Change q z→t < z→u < z)→f u=f t):
  EV f ((az q).foldl (stepT f) []) 1099511627776:=by
 rw [Ao,JD]
 have hs:=kD ((changeM q).map Prod.fst)
 have hp:=jX ((changeM q).map Prod.fst)
 have hn:(sortI ((changeM q).map Prod.fst)).Nodup:=hp.nodup_iff.2 (BT q)
 have hm:∀ x,x∈sortI ((changeM q).map Prod.fst)↔Change q x:=fun x=>(hp.mem_iff).trans (DK q x)
 generalize sortI ((changeM q).map Prod.fst)=pts at *
 cases pts with
 | nil=>exact absurd ((hm 0).2 (.inl rfl)) (by simp)
 | cons y l=>
  have h0:y=0:=by
   have h1:=hpos y ((hm y).1 (List.mem_cons_self ..))
   rcases List.mem_cons.1 ((hm 0).2 (.inl rfl)) with h | h
   ·exact h.symm
   ·have:=(List.pairwise_cons.1 hs).1 0 h;omega
  subst h0
  refine Dh 0 l [] (Aj hs hn) (by decide) ⟨trivial,by show (-1:Int)≤0;decide,by decide,fun t h1 h2=>by omega⟩ fun t u h1 h2 h3=>hf t u h1 h2 fun z hz h4=>?_
  rcases List.mem_cons.1 ((hm z).2 hz) with rfl | hz'
  ·omega
  ·exact h3 z hz' h4
theorem tF {t u known:Int} (k:List (dz×Interest)→List Interest):∀ (l:List Interest) (m:List (dz×Interest)),(∀ y∈l,(t < y.At↔u < y.At))→bP.L1 t known k l m=bP.L1 u known k l m
 | [],m,_=>rfl
 | y::l,m,h=>by
  have e:decide (t < y.At)=decide (u < y.At):=by simp [h y (List.mem_cons_self ..)]
  have ih:=fun m=>tF (known:=known) k l m (fun z hz=>h z (List.mem_cons_of_mem _ hz))
  simp only [bP.L1,e,ih]
theorem zO {l:List Interest} {p:Int} {ps:List Int} {t u known:Int} (ht:0≤t∧t < 1099511627776) (hu:0≤u∧u < 1099511627776) (h:∀ y∈l,(t < y.At↔u < y.At)):ef l p ps t known=ef l p ps u known:=by
 have e1:bP l t known=bP l u known:=tF _ l [] h
 have e2:aF t 1099511627776=aF u 1099511627776:=by simp [aF,ht,hu]
 have e3:cn l p ps t known=cn l p ps u known:=by
  unfold cn
  have:cn.K1 p ps t known=cn.K1 p ps u known:=by funext g;unfold cn.K1;rw [e2]
  rw [this]
 unfold ef
 rw [e1,e3]
theorem AJ {t u known:Int} (later:Appoint→Appoint→Bool) (k:List (OSeat×Appoint)→List (OSeat×Appoint)):∀ (l:List Appoint) (m:List (OSeat×Appoint)),(∀ y∈l,(t < y.At↔u < y.At))→bO.L1 (fun eo=>eN eo t known) later k l m=bO.L1 (fun eo=>eN eo u known) later k l m
 | [],m,_=>rfl
 | y::l,m,h=>by
  have e:eN y t known=eN y u known:=by
   have h1:=h y (List.mem_cons_self ..)
   have:decide (y.At≤t)=decide (y.At≤u):=by
    have:y.At≤t↔y.At≤u:=by omega
    simp [this]
   simp only [eN,this]
  have ih:=fun m=>AJ (known:=known) later k l m (fun z hz=>h z (List.mem_cons_of_mem _ hz))
  simp only [bO.L1,e,ih]
theorem BW {l:List Appoint} {o t u known:Int} (ht:0≤t∧t < 1099511627776) (hu:0≤u∧u < 1099511627776) (h:∀ y∈l,(t < y.At↔u < y.At)):dB l o t known=dB l o u known:=by
 have e1:eQ l t known=eQ l u known:=AJ _ _ l [] h
 have e2:bB t=bB u:=by
  have h1:∀ x:Int,0≤x∧x < 1099511627776→bB x=true:=fun x hx=>by simp only [bB,cg,Bool.and_eq_true,decide_eq_true_eq];omega
  rw [h1 t ht,h1 u hu]
 unfold dB
 rw [e1,e2]
theorem DQ {l:List Version} {begun t u known:Int} (ht:0≤t∧t < 1099511627776) (hu:0≤u∧u < 1099511627776) (hb:t < begun↔u < begun) (h:∀ y∈l,(t < y.At↔u < y.At)):bx l begun t known=bx l begun u known:=by
 have L:∀ (k:Bool→List Version→List Int×Int×Int) (ps:List (Int×Version)) b g,(∀ p∈ps,(t < p.1↔u < p.1))→bx.L1 begun t k ps b g=bx.L1 begun u k ps b g:=by
  intro k ps
  induction ps with
  | nil=>intros;rfl
  | cons p ps ih=>
   intro b g hp
   have e:decide (t < p.1)=decide (u < p.1):=by simp [hp p (List.mem_cons_self ..)]
   simp only [bx.L1,e,ih _ _ (fun z hz=>hp z (List.mem_cons_of_mem _ hz))]
 have e2:ep t=ep u:=by simp [ep,ht,hu]
 have e3:decide (t < begun)=decide (u < begun):=by simp [hb]
 unfold bx
 rw [e2,e3,L _ _ _ _ (wE (fun p=>(t < p.1↔u < p.1)) (fun y _ _=>hb) (fun y hy _=>h y hy))]
theorem BQ {q:aH} (who:List Int) (hU:q.doc.Until≤1099511627776) (hk:0≤q.doc.Kind) {t u:Int} (h0:0≤t) (htu:t≤u) (hs:∀ z,Change q z→t < z→u < z):aX q who u=aX q who t:=by
 have hs':∀ z,Change q z→(t < z↔u < z):=fun z hz=>⟨hs z hz,fun h=>by omega⟩
 have hA:=hs' q.doc.At (.inr (.inl rfl))
 have hUn:=hs' q.doc.Until (.inr (.inr (.inl rfl)))
 have hap:∀ y∈q.Register.Appoints,(t < y.At↔u < y.At):=fun y hy=>hs' _ (.inr (.inr (.inr (.inl ⟨y,hy,rfl⟩))))
 have hin:∀ y∈q.Register.Interests,(t < y.At↔u < y.At):=fun y hy=>hs' _ (.inr (.inr (.inr (.inr (.inl ⟨y,hy,rfl⟩)))))
 have hve:∀ y∈q.Register.Versions,(t < y.At↔u < y.At):=fun y hy=>hs' _ (.inr (.inr (.inr (.inr (.inr ⟨y,hy,.inl rfl⟩)))))
 have hru:∀ v∈q.Register.Versions,∀ y∈v.Policy.Rules,(t < q.doc.At+y.Think↔u < q.doc.At+y.Think):=fun v hv y hy=>hs' _ (.inr (.inr (.inr (.inr (.inr ⟨v,hv,.inr ⟨y,hy,rfl⟩⟩)))))
 have hd:(decide (u < q.doc.At)||decide (q.doc.Until≤u))=(decide (t < q.doc.At)||decide (q.doc.Until≤t)):=by
  have h1:decide (u < q.doc.At)=decide (t < q.doc.At):=by simp [hA]
  have h2:decide (q.doc.Until≤u)=decide (q.doc.Until≤t):=by
   have:q.doc.Until≤u↔q.doc.Until≤t:=by omega
   simp [this]
  rw [h1,h2]
 unfold aX
 rw [hd]
 cases hc:(decide (t < q.doc.At)||decide (q.doc.Until≤t)) with
 | true=>rfl
 | false=>
  simp only [Bool.or_eq_false_iff,decide_eq_false_iff_not] at hc
  have ht:0≤t∧t < 1099511627776:=by omega
  have hu:0≤u∧u < 1099511627776:=by omega
  simp only [cond_false]
  have ej:ao q u=ao q t:=by
   have e:=DQ (l:=q.Register.Versions) (begun:=q.doc.At) (known:=q.known) ht hu hA hve
   have L:∀ (l:List Version) (g:List Policy),ao.L1 q u (ao.K1 q u) l g=ao.L1 q t (ao.K1 q t) l g:=by
    intro l g
    rw [pT,pT,e]
   unfold ao
   rw [← e,L]
  have eh:∀ p,aw q p u=aw q p t:=fun p=>by
   rw [nk,nk]
   exact List.map_congr_left fun j _=>by rw [BW (known:=q.known) (o:=(j:Int)) ht hu hap]
  have ec:(fun eo=>bq eo q u)=(fun eo=>bq eo q t):=by
   funext a
   unfold bq
   rw [zO (p:=a) (ps:=q.doc.Parties) (known:=q.known) ht hu hin]
  have ek:aX.K1 q u=aX.K1 q t:=by
   funext g
   unfold aX.K1
   rw [ej]
  rw [ej,ek]
  have L:∀ (k:List Bool→Bool) (l:List Policy) (g:List Bool),(∀ p∈l,∃ v∈q.Register.Versions,v.Policy=p)→0≤q.doc.Kind→aX.L1 q who u k l g=aX.L1 q who t k l g:=by
   intro k l
   induction l with
   | nil=>intros;rfl
   | cons p l ih=>
    intro g hl hk
    obtain ⟨v,hv,hvp⟩:=hl p (List.mem_cons_self ..)
    have e:(decide (q.doc.Kind < ((p.Rules.length:Nat):Int))&&decide ((q.doc.At+(nthI p.Rules q.doc.Kind).Think)≤u))=(decide (q.doc.Kind < ((p.Rules.length:Nat):Int))&&decide ((q.doc.At+(nthI p.Rules q.doc.Kind).Think)≤t)):=by
     by_cases hkl:q.doc.Kind < ((p.Rules.length:Nat):Int)
     ·have:=hru v hv (nthI p.Rules q.doc.Kind) (by rw [hvp];exact kO ⟨hk,hkl⟩)
      have h2:(q.doc.At+(nthI p.Rules q.doc.Kind).Think≤u)↔(q.doc.At+(nthI p.Rules q.doc.Kind).Think≤t):=by omega
      simp [h2]
     ·simp [hkl]
    simp only [aX.L1,e,eh,ec,ih _ (fun z hz=>hl z (List.mem_cons_of_mem _ hz)) hk]
  exact L _ _ _ (fun p hp=>qJ hp) hk
section chk
variable {α : Type} [Inhabited α]
def refChk (R:α→Bool) (no:α→Int) (c:Int) (L:List α):List α→Nat→Int
 | [],_=>0
 | y::l,i=>bif (!(R y))||(decide (0 < ((i:Nat):Int))&&decide (no y≤no (nthI L (((i:Nat):Int) - 1)))) then c else refChk R no c L l (i+1)
def prgChk (R:α→Bool) (no:α→Int) (c:Int):List α→Int→Int
 | [],_=>0
 | y::l,g=>bif (!(R y))||decide (no y≤g) then c else prgChk R no c l (no y)
theorem DI (R:α→Bool) (no:α→Int) (c:Int) (L:List α):∀ (l pre:List α) (x:α),L=(pre++[x])++l→refChk R no c L l (pre.length+1)=prgChk R no c l (no x)
 | [],_,_,_=>rfl
 | y::l,pre,x,h=>by
  have hx:nthI L (((pre.length+1:Nat):Int) - 1)=x:=by
   have hb:0≤(((pre.length+1:Nat):Int) - 1)∧(((pre.length+1:Nat):Int) - 1) < (L.length:Int):=by rw [h];simp;omega
   have hg:=df hb
   rw [show ((((pre.length+1:Nat):Int) - 1)).toNat=pre.length from by omega,h] at hg
   rw [h];simpa using hg.symm
  have hd:decide (0 < ((pre.length+1:Nat):Int))=true:=by rw [decide_eq_true_eq];omega
  have ih:=DI R no c L l (pre++[x]) y (by rw [h];simp)
  rw [List.length_append,List.length_cons,List.length_nil,Nat.zero_add] at ih
  simp only [refChk,prgChk,hx,hd,Bool.true_and,ih]
theorem zl (R:α→Bool) (no:α→Int) (c:Int) (hR:∀ y,R y=true→0≤no y) (l:List α):refChk R no c l l 0=prgChk R no c l (-1):=by
 cases l with
 | nil=>rfl
 | cons y l=>
  have ih:=DI R no c (y::l) l [] y rfl
  simp only [List.length_nil,Nat.zero_add] at ih
  simp only [refChk,prgChk,Nat.zero_add,ih]
  cases hr:R y with
  | false=>rfl
  | true=>
   have:decide (no y≤-1)=false:=by have:=hR y hr;simp;omega
   rw [this];rfl
end chk
theorem wz (l:List Appoint):cx l=dH l:=by
 have hR:∀ x,iq x=gL x:=fun x=>by
  rw [Bool.eq_iff_iff]
  simp only [iq,gL,Bool.cond_eq_ite]
  cases x.Gone <;> simp only [if_true,if_false,Bool.false_eq_true,Bool.and_eq_true,Bool.or_eq_true,Bool.not_eq_true',decide_eq_true_eq,decide_eq_false_iff_not,beq_iff_eq,cg,bB,dE,eZ,fE,hZ,kH,Bool.and_eq_false_iff]
   <;> (split <;> simp only [Bool.false_eq_true,iff_false,decide_eq_true_eq,Bool.and_eq_true,beq_iff_eq] <;> omega)
 have h1:∀ (L l:List Appoint) i,dH.L1 L dH.K1 l i=refChk gL (·.No) 150 L l i:=by
  intro L l
  induction l with
  | nil=>intro i;rfl
  | cons y l ih=>intro i;simp only [dH.L1,refChk,ih]
 have h2:∀ (l:List Appoint) g,cx.L1 cx.K1 l g=prgChk gL (·.No) 150 l g:=by
  intro l
  induction l with
  | nil=>intro g;rfl
  | cons y l ih=>intro g;simp only [cx.L1,prgChk,ih,hR]
 unfold cx dH
 rw [h1,h2,zl]
 intro y hy
 simp only [gL,Bool.cond_eq_ite] at hy
 split at hy
 ·cases hy
 ·next h=>simp only [Bool.or_eq_true,not_or,decide_eq_true_eq] at h;omega
theorem BP (l:List Deputy):dg l=eW l:=by
 have hR:∀ x,jd x=gW x:=fun x=>by
  rw [Bool.eq_iff_iff]
  simp only [jd,gW,Bool.cond_eq_ite,cS,ei,eu,ea,gK,gO]
  generalize (!(decide (0≤x.No)&&decide (x.No≤1048576))||!(decide (0≤x.At)&&decide (x.At≤1099511627775))||!(decide (0≤x.Known)&&decide (x.Known≤1099511627775))||!(decide (0≤x.From)&&decide (x.From≤63))||!(decide (0≤x.To)&&decide (x.To≤63))||x.From==x.To)=A
  cases A <;> simp
 have h1:∀ (L l:List Deputy) i,eW.L1 L eW.K1 l i=refChk gW (·.No) 160 L l i:=by
  intro L l
  induction l with
  | nil=>intro i;rfl
  | cons y l ih=>intro i;simp only [eW.L1,refChk,ih]
 have h2:∀ (l:List Deputy) g,dg.L1 dg.K1 l g=prgChk gW (·.No) 160 l g:=by
  intro l
  induction l with
  | nil=>intro g;rfl
  | cons y l ih=>intro g;simp only [dg.L1,prgChk,ih,hR]
 unfold dg eW
 rw [h1,h2,zl]
 intro y hy
 simp only [gW,Bool.cond_eq_ite] at hy
 split at hy
 ·cases hy
 ·next h=>simp only [Bool.or_eq_true,not_or,decide_eq_true_eq,ea,Bool.not_eq_true',Bool.and_eq_false_iff,decide_eq_false_iff_not] at h;omega
theorem tM (l:List Interest):cr l=eA l:=by
 have hR:∀ x,iK x=gJ x:=fun x=>by
  rw [Bool.eq_iff_iff]
  simp only [iK,gJ,Bool.cond_eq_ite,aF,iB,i8,kF]
  cases x.Of <;> simp only [if_true,if_false,Bool.false_eq_true,Bool.and_eq_true,Bool.or_eq_true,Bool.not_eq_true',decide_eq_true_eq,decide_eq_false_iff_not,bne_iff_ne,Bool.and_eq_false_iff]
   <;> (split <;> simp only [Bool.false_eq_true,iff_false,decide_eq_true_eq,Bool.and_eq_true,bne_iff_ne] <;> omega)
 have h1:∀ (L l:List Interest) i,eA.L1 L eA.K1 l i=refChk gJ (·.No) 290 L l i:=by
  intro L l
  induction l with
  | nil=>intro i;rfl
  | cons y l ih=>intro i;simp only [eA.L1,refChk,ih]
 have h2:∀ (l:List Interest) g,cr.L1 cr.K1 l g=prgChk gJ (·.No) 290 l g:=by
  intro l
  induction l with
  | nil=>intro g;rfl
  | cons y l ih=>intro g;simp only [cr.L1,prgChk,ih,hR]
 unfold cr eA
 rw [h1,h2,zl]
 intro y hy
 simp only [gJ,Bool.cond_eq_ite] at hy
 split at hy
 ·cases hy
 ·next h=>simp only [Bool.or_eq_true,not_or,decide_eq_true_eq] at h;omega
theorem wF (f:Int→Bool):∀ (l:List Int) (i:Nat),decide (0≤bN.L1 f bN.K1 l i)=l.any f
 | [],i=>by simp [bN.L1,bN.K1]
 | y::l,i=>by
  have ih:=wF f l (i+1)
  simp only [bN.L1,List.any_cons]
  by_cases hf:f y=true
  ·simp [hf]
  ·simp only [Bool.not_eq_true] at hf
   simp only [hf,cond_false,Bool.false_or]
   exact ih
theorem containsF (l:List Int) (f:Int→Bool):cK l f=l.any f:=wF f l 0
theorem DN (l:List Budget):dj l=fh l:=by
 have hR:∀ x,jw x=gU x:=fun x=>by
  rw [Bool.eq_iff_iff]
  simp only [jw,gU,Bool.cond_eq_ite,aC,containsF,gX,List.any_cons,List.any_nil,Bool.or_false,et,gv]
  cases x.Gone <;> simp only [if_true,if_false,Bool.false_eq_true,Bool.and_eq_true,Bool.or_eq_true,Bool.not_eq_true',decide_eq_true_eq,decide_eq_false_iff_not,beq_iff_eq,Bool.and_eq_false_iff,Bool.or_eq_false_iff]
   <;> (split <;> simp only [Bool.false_eq_true,iff_false,decide_eq_true_eq,Bool.and_eq_true,beq_iff_eq] <;> omega)
 have h1:∀ (L l:List Budget) i,fh.L1 L fh.K1 l i=refChk gU (·.No) 180 L l i:=by
  intro L l
  induction l with
  | nil=>intro i;rfl
  | cons y l ih=>intro i;simp only [fh.L1,refChk,ih]
 have h2:∀ (l:List Budget) g,dj.L1 dj.K1 l g=prgChk gU (·.No) 180 l g:=by
  intro l
  induction l with
  | nil=>intro g;rfl
  | cons y l ih=>intro g;simp only [dj.L1,prgChk,ih,hR]
 unfold dj fh
 rw [h1,h2,zl]
 intro y hy
 simp only [gU,Bool.cond_eq_ite] at hy
 split at hy
 ·cases hy
 ·next h=>simp only [Bool.or_eq_true,not_or,decide_eq_true_eq,et,Bool.not_eq_true',Bool.and_eq_false_iff,decide_eq_false_iff_not] at h;omega
theorem zS (l:List Approval):ct l=fg l:=by
 have hR:∀ x,iM x=gT x:=fun x=>by
  rw [Bool.eq_iff_iff]
  simp only [iM,gT,Bool.cond_eq_ite,cj,containsF,gM,List.any_cons,List.any_nil,Bool.or_false,dI,iU,mT]
  simp only [Bool.and_eq_true,Bool.or_eq_true,Bool.not_eq_true',decide_eq_true_eq,decide_eq_false_iff_not,Bool.and_eq_false_iff,Bool.or_eq_false_iff]
  split <;> simp only [Bool.false_eq_true,iff_false,decide_eq_true_eq,Bool.and_eq_true] <;> omega
 have h1:∀ (L l:List Approval) i,fg.L1 L fg.K1 l i=refChk gT (·.No) 280 L l i:=by
  intro L l
  induction l with
  | nil=>intro i;rfl
  | cons y l ih=>intro i;simp only [fg.L1,refChk,ih]
 have h2:∀ (l:List Approval) g,ct.L1 ct.K1 l g=prgChk gT (·.No) 280 l g:=by
  intro l
  induction l with
  | nil=>intro g;rfl
  | cons y l ih=>intro g;simp only [ct.L1,prgChk,ih,hR]
 unfold ct fg
 rw [h1,h2,zl]
 intro y hy
 simp only [gT,Bool.cond_eq_ite] at hy
 split at hy
 ·cases hy
 ·next h=>simp only [Bool.or_eq_true,not_or,decide_eq_true_eq,dI,Bool.not_eq_true',Bool.and_eq_false_iff,decide_eq_false_iff_not] at h;omega
def refLs (B:Int→Bool) (L:List Int) (k:Bool):List Int→Nat→Bool
 | [],_=>k
 | y::l,i=>bif (B y)||(decide (0 < ((i:Nat):Int))&&decide (y≤nthI L (((i:Nat):Int) - 1))) then false else refLs B L k l (i+1)
theorem xU (B:Int→Bool) (L:List Int) (k:Bool):∀ (l pre:List Int) (x:Int),L=(pre++[x])++l→refLs B L k l (pre.length+1)=true→((∀ y∈l,B y=false)∧k=true)∧(x::l).Pairwise (· < ·)
 | [],_,_,_,h=>⟨⟨fun _ h=>(List.not_mem_nil h).elim,h⟩,by simp⟩
 | y::l,pre,x,h,hr=>by
  have hx:nthI L (((pre.length+1:Nat):Int) - 1)=x:=by
   have hb:0≤(((pre.length+1:Nat):Int) - 1)∧(((pre.length+1:Nat):Int) - 1) < (L.length:Int):=by rw [h];simp;omega
   have hg:=df hb
   rw [show ((((pre.length+1:Nat):Int) - 1)).toNat=pre.length from by omega,h] at hg
   rw [h];simpa using hg.symm
  simp only [refLs,hx,Bool.cond_eq_ite] at hr
  split at hr
  ·cases hr
  ·next hc=>
   simp only [Bool.or_eq_true,Bool.and_eq_true,decide_eq_true_eq,not_or] at hc
   have ih:=xU B L k l (pre++[x]) y (by rw [h];simp)
   rw [List.length_append,List.length_cons,List.length_nil,Nat.zero_add] at ih
   obtain ⟨⟨i1,i2⟩,i3⟩:=ih hr
   have hxy:x < y:=by omega
   refine ⟨⟨fun z hz=>?_,i2⟩,List.pairwise_cons.2 ⟨fun z hz=>?_,i3⟩⟩
   ·rcases List.mem_cons.1 hz with rfl | hz
    ·simpa using hc.1
    ·exact i1 z hz
   ·rcases List.mem_cons.1 hz with rfl | hz
    ·exact hxy
    ·have:=(List.pairwise_cons.1 i3).1 z hz;omega
theorem CE {B:Int→Bool} {k:Bool} {l:List Int} (h:refLs B l k l 0=true):((∀ y∈l,B y=false)∧k=true)∧l.Pairwise (· < ·):=by
 cases l with
 | nil=>exact ⟨⟨fun _ h=>(List.not_mem_nil h).elim,h⟩,List.Pairwise.nil⟩
 | cons y l=>
  simp only [refLs,Bool.cond_eq_ite] at h
  split at h
  ·cases h
  ·next hc=>
   simp only [Bool.or_eq_true,not_or] at hc
   obtain ⟨⟨i1,i2⟩,i3⟩:=xU B (y::l) k l [] y rfl h
   refine ⟨⟨fun z hz=>?_,i2⟩,i3⟩
   rcases List.mem_cons.1 hz with rfl | hz
   ·simpa using hc.1
   ·exact i1 z hz
theorem xR {l:List Int} {limit:Int} (h:ed l limit=true):((∀ x∈l,0≤x∧x < limit)∧l.Pairwise (· < ·))∧l.length≤16:=by
 have e:∀ (L l:List Int) i,ed.L1 L limit (ed.K1 L) l i=refLs (fun y=>decide (y < 0)||decide (limit≤y)) L (ed.K1 L) l i:=by
  intro L l
  induction l with
  | nil=>intro i;rfl
  | cons y l ih=>intro i;simp only [ed.L1,refLs,ih]
 unfold ed at h
 rw [e] at h
 obtain ⟨⟨h1,h2⟩,h3⟩:=CE h
 refine ⟨⟨fun x hx=>?_,h3⟩,?_⟩
 ·have:=h1 x hx;simp only [Bool.or_eq_false_iff,decide_eq_false_iff_not] at this;omega
 ·simp only [ed.K1,decide_eq_true_eq] at h2;omega
theorem EC {l:List Int} (h:eL l=true):(∀ x∈l,0≤x∧x < 64)∧l.Pairwise (· < ·):=by
 have e:∀ (L l:List Int) i,eL.L1 L eL.K1 l i=refLs (fun y=>decide (y < 0)||decide (64≤y)) L true l i:=by
  intro L l
  induction l with
  | nil=>intro i;rfl
  | cons y l ih=>intro i;simp only [eL.L1,refLs,ih]
 unfold eL at h
 rw [e] at h
 obtain ⟨⟨h1,h2⟩,h3⟩:=CE h
 refine ⟨fun x hx=>?_,h3⟩
 have:=h1 x hx;simp only [Bool.or_eq_false_iff,decide_eq_false_iff_not] at this;omega
theorem Cz {d:Document} (h:gV d=true):FW d:=by
 simp only [gV,Bool.cond_eq_ite] at h
 split at h
 ·cases h
 ·next hc=>
  simp only [Bool.or_eq_true,not_or,decide_eq_true_eq,jH,Bool.not_eq_true',Bool.and_eq_false_iff,decide_eq_false_iff_not] at hc
  simp only [Bool.and_eq_true,decide_eq_true_eq] at h
  obtain ⟨⟨⟨⟨⟨h1,h2⟩,h3⟩,h4⟩,h5⟩,h6⟩:=h
  exact ⟨by omega,by omega,by omega,by omega,⟨h1,h2⟩,h3,xR h4,xR h5,xR h6⟩
theorem Cp (L:List Document):∀ (l:List Document) (i:Nat) (m:List (Int×Int)),(bn.L1 (bn.K1 L) l i m).docs=L∧∀ x,mhas (bn.L1 (bn.K1 L) l i m).at_ x=(mhas m x||l.any fun d=>d.No==x)
 | [],i,m=>⟨rfl,fun x=>by simp [bn.L1,bn.K1]⟩
 | y::l,i,m=>by
  obtain ⟨h1,h2⟩:=Cp L l (i+1) (mput m y.No ((i:Nat):Int))
  refine ⟨h1,fun x=>?_⟩
  show mhas (bn.L1 (bn.K1 L) l (i+1) (mput m y.No ((i:Nat):Int))).at_ x=_
  rw [h2 x,List.any_cons]
  have:mhas (mput m y.No ((i:Nat):Int)) x=(mhas m x||y.No==x):=by
   unfold mhas
   rw [AG]
   by_cases e:x=y.No
   ·subst e;simp
   ·rw [if_neg e]
    have:(y.No==x)=false:=by simp;exact fun h=>e h.symm
    rw [this,Bool.or_false]
  rw [this,Bool.or_assoc]
theorem wK (no:Int):∀ (l:List Document) (i:Nat),0≤fQ.L1 no fQ.K1 l i→(l.any fun d=>d.No==no)=true
 | [],i,h=>by simp [fQ.L1,fQ.K1] at h
 | y::l,i,h=>by
  simp only [fQ.L1,Bool.cond_eq_ite] at h
  rw [List.any_cons]
  by_cases e:(y.No==no)=true
  ·rw [e];rfl
  ·rw [if_neg e] at h
   rw [wK no l (i+1) h,Bool.or_true]
theorem Ag (L:List Document):∀ nos:List Int,cW.L1 L cW.K1 nos=true→∀ x∈nos,(L.any fun d=>d.No==x)=true
 | [],_=>fun _ h=>(List.not_mem_nil h).elim
 | y::nos,h=>by
  simp only [cW.L1,Bool.cond_eq_ite,decide_eq_true_eq] at h
  split at h
  ·cases h
  ·next hc=>
   intro x hx
   rcases List.mem_cons.1 hx with rfl | hx
   ·exact wK x L 0 (by unfold fQ at hc;omega)
   ·exact Ag L nos h x hx
theorem JN {L:List Document} {d:Document} (h1:cW L d.Revokes=true) (h2:cW L d.Needs=true):er (bn L) d=true:=by
 have hs:=(Cp L L 0 []).2
 have key:∀ nos,cW L nos=true→cK nos (fun eo=>dO eo (bn L))=false:=by
  intro nos hn
  rw [containsF,List.any_eq_false]
  intro x hx
  unfold dO
  have:=Ag L nos hn x hx
  have e:mhas (bn L).at_ x=true:=by
   show mhas (bn.L1 (bn.K1 L) L 0 []).at_ x=true
   rw [hs x,this,Bool.or_true]
  rw [e];simp
 unfold er
 rw [key _ h1,key _ h2];rfl
theorem zN {l:List Document} (h:e7 l=0):bV l=0:=by
 have L:∀ (L l:List Document) (i:Nat),e7.L1 L e7.K1 l i=0→bV.L1 L bV.K1 l i=0:=by
  intro L l
  induction l with
  | nil=>intros;rfl
  | cons y l ih=>
   intro i h
   simp only [e7.L1,Bool.cond_eq_ite] at h
   split at h
   ·omega
   ·next hc=>
    simp only [Bool.or_eq_true,not_or,Bool.not_eq_true',Bool.not_eq_false,Bool.not_eq_true] at hc
    obtain ⟨⟨⟨c1,c2⟩,c3⟩,c4⟩:=hc
    simp only [bV.L1,(CA y).2 (Cz c1),c2,JN c3 c4,Bool.not_true,Bool.or_false,cond_false]
    exact ih (i+1) h
 unfold e7 at h
 unfold bV
 rw [Bool.cond_eq_ite] at h ⊢
 split at h
 ·omega
 ·next hc=>rw [if_neg hc];exact L l l 0 h
theorem askIdx (no:Int):∀ (l:List Document) (i:Nat),aa.L1 (fun eo=>bY eo no) aa.K1 l i=ce.L1 no ce.K1 l i
 | [],i=>rfl
 | y::l,i=>by
  have ih:=askIdx no l (i+1)
  simp only [aa.L1,ce.L1]
  rw [ih];rfl
theorem Ip {r:Register} {doc known:Int} (h:0≤ce r doc) (hk:0≤known∧known < 1099511627776):cU r doc known=(⟨r,nthI r.Docs (ce r doc),known⟩,true):=by
 have e:aa r.Docs (fun eo=>bY eo doc)=ce r doc:=askIdx doc r.Docs 0
 unfold cU
 rw [e]
 have h1:decide (ce r doc < 0)=false:=by simp;omega
 have h2:iY known=true:=by simp [iY,hk]
 rw [h1,h2]
 rfl
theorem ym:∀ (l:List Int) (g:Int),(∀ x∈l,g < x∧x < 64)→l.Pairwise (· < ·)→fG.L1 fG.K1 l g=true
 | [],_,_,_=>rfl
 | y::l,g,h,hp=>by
  have h1:=h y (List.mem_cons_self ..)
  have e:(decide (y≤g)||decide (64≤y))=false:=by simp;omega
  simp only [fG.L1,e,cond_false]
  exact ym l y (fun x hx=>⟨(List.pairwise_cons.1 hp).1 x hx,(h x (List.mem_cons_of_mem _ hx)).2⟩) (List.pairwise_cons.1 hp).2
theorem EU {l:List Int} (h:(∀ x∈l,0≤x∧x < 64)∧l.Pairwise (· < ·)):fG l=true:=ym l (-1) (fun x hx=>by have:=h.1 x hx;omega) h.2
structure Jdg (l:List Version) (J:List Int×Int×Int):Prop where
 err:J.2.2=0
 rise:J.1.Pairwise (· < ·)
 mem:∀ x∈J.1,∃ v∈l,v.No=x
 mode:J.1≠[]→1≤J.2.1∧J.2.1≤4
def cval (q:aH) (who:List Int) (t:Int) (p:Policy):Bool:=
 bif (decide (q.doc.Kind < ((p.Rules.length:Nat):Int))&&decide ((q.doc.At+(nthI p.Rules q.doc.Kind).Think)≤t)) then ((cf p q.doc.Kind q.doc.Value (aw q p t) (bp who (fun eo=>bq eo q t))).1&&((cf p q.doc.Kind q.doc.Value (aw q p t) (bp who (fun eo=>bq eo q t))).2==0))
 else (decide (q.doc.Kind < ((p.Rules.length:Nat):Int))&&decide ((q.doc.At+(nthI p.Rules q.doc.Kind).Think)≤t))
theorem Jn (q:aH) (who:List Int) (t:Int) (k:List Bool→Bool):∀ (l:List Policy) (g:List Bool),aX.L1 q who t k l g=k (g++l.map (cval q who t))
 | [],g=>by simp [aX.L1]
 | y::l,g=>by
  have ih:=Jn q who t k l
  simp only [aX.L1,ih,List.map_cons]
  unfold cval
  cases (decide (q.doc.Kind < ((y.Rules.length:Nat):Int))&&decide ((q.doc.At+(nthI y.Rules q.doc.Kind).Think)≤t)) <;> simp
theorem In (L:List Appoint):∀ (l:List Appoint) (i:Nat),dH.L1 L dH.K1 l i=0→∀ d∈l,0≤d.At
 | [],_,_=>fun _ h=>(List.not_mem_nil h).elim
 | y::l,i,h=>by
  simp only [dH.L1,Bool.cond_eq_ite] at h
  split at h
  ·omega
  ·next hc=>
   simp only [Bool.or_eq_true,not_or,Bool.not_eq_true',Bool.not_eq_false] at hc
   intro d hd
   rcases List.mem_cons.1 hd with rfl | hd
   ·have h1:=hc.1
    simp only [gL,Bool.cond_eq_ite] at h1
    split at h1
    ·cases h1
    ·next h2=>simp only [Bool.or_eq_true,not_or,Bool.not_eq_true',Bool.not_eq_false,fE,Bool.and_eq_true,decide_eq_true_eq] at h2;omega
   ·exact In L l (i+1) h d hd
theorem Im (L:List Interest):∀ (l:List Interest) (i:Nat),eA.L1 L eA.K1 l i=0→∀ d∈l,0≤d.At
 | [],_,_=>fun _ h=>(List.not_mem_nil h).elim
 | y::l,i,h=>by
  simp only [eA.L1,Bool.cond_eq_ite] at h
  split at h
  ·omega
  ·next hc=>
   simp only [Bool.or_eq_true,not_or,Bool.not_eq_true',Bool.not_eq_false] at hc
   intro d hd
   rcases List.mem_cons.1 hd with rfl | hd
   ·have h1:=hc.1
    simp only [gJ,Bool.cond_eq_ite] at h1
    split at h1
    ·cases h1
    ·next h2=>simp only [Bool.or_eq_true,not_or,Bool.not_eq_true',Bool.not_eq_false,iB,Bool.and_eq_true,decide_eq_true_eq] at h2;omega
   ·exact Im L l (i+1) h d hd
theorem JT {l:List Appoint} (h:dH l=0):∀ d∈l,0≤d.At:=by
 unfold dH at h
 rw [Bool.cond_eq_ite] at h
 split at h
 ·omega
 ·exact In l l 0 h
theorem JS {l:List Interest} (h:eA l=0):∀ d∈l,0≤d.At:=by
 unfold eA at h
 rw [Bool.cond_eq_ite] at h
 split at h
 ·omega
 ·exact Im l l 0 h
theorem vY {β : Type} (F:(Expr→β)→Expr→β) (go:Nat→Expr→β) (h:∀ m,go (m+1)=F (go m)) (hF:∀ f g x,(∀ y∈x.L,f y=g y)→F f x=F g x) (x:Expr):go x.dep x=F (fun y=>go y.dep y) x:=by
 have key:∀ x:Expr,∀ m,x.dep≤m→go m x=go x.dep x:=by
  refine fun x=>Expr.ind (P:=fun x=>∀ m,x.dep≤m→go m x=go x.dep x) ?_ x
  intro x ih m hm
  have hp:=Expr.jV x
  obtain ⟨m',rfl⟩:∃ m',m=m'+1:=⟨m - 1,by omega⟩
  obtain ⟨n,hn⟩:∃ n,x.dep=n+1:=⟨x.dep - 1,by omega⟩
  rw [hn,h,h]
  refine hF _ _ _ fun y hy=>?_
  have:=Expr.hY hy
  rw [ih y hy m' (by omega),ih y hy n (by omega)]
 have hp:=Expr.jV x
 obtain ⟨n,hn⟩:∃ n,x.dep=n+1:=⟨x.dep - 1,by omega⟩
 rw [hn,h]
 refine hF _ _ _ fun y hy=>?_
 have:=Expr.hY hy
 exact key y n (by omega)
theorem IA (x:Expr):bC x=bC.F bC x:=by
 refine vY bC.F bC.go (fun m=>rfl) (fun f g x h=>?_) x
 unfold bC.F
 have:∀ (k:Int→Int) (l:List Expr) a,(∀ y∈l,f y=g y)→bC.L1 f k l a=bC.L1 g k l a:=by
  intro k l
  induction l with
  | nil=>intros;rfl
  | cons y l ih=>intro a hl;simp only [bC.L1,hl y (List.mem_cons_self ..)];exact ih _ fun z hz=>hl z (List.mem_cons_of_mem _ hz)
 exact this _ _ _ h
theorem depthL (l:List Expr):∀ (a:Int),a≤bC.L1 bC (fun g=>g) l a∧(∀ y∈l,bC y≤bC.L1 bC (fun g=>g) l a)∧∀ M:Int,a≤M→(∀ y∈l,bC y≤M)→bC.L1 bC (fun g=>g) l a≤M:=by
 induction l with
 | nil=>intro a;exact ⟨Int.le_refl _,fun _ h=>(List.not_mem_nil h).elim,fun M h _=>h⟩
 | cons y l ih=>
  intro a
  obtain ⟨i1,i2,i3⟩:=ih (max a (bC y))
  simp only [bC.L1]
  refine ⟨by omega,fun w hw=>?_,fun M h1 h2=>i3 M (by have:=h2 y (List.mem_cons_self ..);omega) fun w hw=>h2 w (List.mem_cons_of_mem _ hw)⟩
  rcases List.mem_cons.1 hw with rfl | hw
  ·omega
  ·exact i2 w hw
theorem depthK (l:List Expr):∀ (a:Int),bC.L1 bC bC.K1 l a=IntKind.i64.wrap (bC.L1 bC (fun g=>g) l a+1):=by
 induction l with
 | nil=>intro a;rfl
 | cons y l ih=>intro a;exact ih _
theorem If (x:Expr):x.dep≤1500000→(1≤bC x∧bC x≤x.dep)∧bC x=bC.L1 bC (fun g=>g) x.L 0+1:=by
 refine Expr.ind (P:=fun x=>x.dep≤1500000→(1≤bC x∧bC x≤x.dep)∧bC x=bC.L1 bC (fun g=>g) x.L 0+1) ?_ x
 intro x ih hx
 obtain ⟨i1,i2,i3⟩:=depthL x.L 0
 have hp:=Expr.jV x
 have h3:=i3 ((x.dep:Int) - 1) (by omega) fun y hy=>by
  have h4:=Expr.hY hy
  have:=(ih y hy (by omega)).1.2
  omega
 have e:bC x=bC.L1 bC (fun g=>g) x.L 0+1:=by
  rw [IA]
  unfold bC.F
  rw [depthK,wrap64 (by omega)]
 exact ⟨by omega,e⟩
theorem DG (x:Expr):x.dep≤1500000→∀ (d D:Int),bC x≤D→∀ z∈bS x d,z.depth≤d+D - 1:=by
 refine Expr.ind (P:=fun x=>x.dep≤1500000→∀ (d D:Int),bC x≤D→∀ z∈bS x d,z.depth≤d+D - 1) ?_ x
 intro x ih hx d D hD z hz
 obtain ⟨h1,h2⟩:=If x hx
 rw [lM] at hz
 rcases List.mem_cons.1 hz with rfl | hz
 ·show d≤d+D - 1;omega
 ·obtain ⟨y,hy,hz⟩:=List.mem_flatMap.1 hz
  have h4:=Expr.hY hy
  have h5:=(depthL x.L 0).2.1 y hy
  have:=ih y hy (by omega) (d+1) (D - 1) (by omega) z hz
  omega
theorem Ix (x:Expr):cR x=cR.F cR x:=by
 refine vY cR.F cR.go (fun m=>rfl) (fun f g x h=>?_) x
 funext limit
 unfold cR.F
 have:∀ (k:Int→Int) (l:List Expr) a,(∀ y∈l,f y=g y)→cR.L1 f limit k l a=cR.L1 g limit k l a:=by
  intro k l
  induction l with
  | nil=>intros;rfl
  | cons y l ih=>
   intro a hl
   simp only [cR.L1,hl y (List.mem_cons_self ..)]
   rw [ih _ fun z hz=>hl z (List.mem_cons_of_mem _ hz)]
 exact this _ _ _ h
def cnt (x:Expr):Nat:=(bS x 1).length
theorem Kc (x:Expr):∀ d,(bS x d).length=cnt x:=by
 refine Expr.ind (P:=fun x=>∀ d,(bS x d).length=cnt x) ?_ x
 intro x ih d
 unfold cnt
 rw [lM,lM x 1,List.length_cons,List.length_cons,List.length_flatMap,List.length_flatMap]
 congr 2
 apply List.map_congr_left
 intro y hy
 rw [ih y hy,ih y hy]
theorem Ij (x:Expr):cnt x=1+(x.L.map cnt).sum:=by
 conv=>lhs;unfold cnt
 rw [lM,List.length_cons,List.length_flatMap,Nat.add_comm]
 congr 2
 apply List.map_congr_left
 intro y hy
 exact Kc y _
theorem Gs (x:Expr):∀ limit:Int,0≤limit→limit≤256→cR x limit=min (cnt x:Int) (limit+1):=by
 refine Expr.ind (P:=fun x=>∀ limit:Int,0≤limit→limit≤256→cR x limit=min (cnt x:Int) (limit+1)) ?_ x
 intro x ih limit h0 h1
 rw [Ix,Ij]
 unfold cR.F
 have key:∀ (l:List Expr) (a:Int),(∀ y∈l,y∈x.L)→1≤a→a≤limit+1→cR.L1 cR limit cR.K1 l a=min (a+((l.map cnt).sum:Nat)) (limit+1):=by
  intro l
  induction l with
  | nil=>intro a _ _ ha;simp only [cR.L1,cR.K1,List.map_nil,List.sum_nil];omega
  | cons y l ih2=>
   intro a hl h2 h3
   simp only [cR.L1,Bool.cond_eq_ite,decide_eq_true_eq,List.map_cons,List.sum_cons]
   by_cases ha:a≤limit
   ·rw [if_pos ha,wrap64 (z:=limit - a) (by omega),ih y (hl y (List.mem_cons_self ..)) (limit - a) (by omega) (by omega)]
    have hc:1≤cnt y:=by rw [Ij];omega
    rw [wrap64 (by omega),ih2 _ (fun z hz=>hl z (List.mem_cons_of_mem _ hz)) (by omega) (by omega)]
    omega
   ·rw [if_neg ha]
    simp only [cR.K1]
    omega
 rw [key x.L 1 (fun y hy=>hy) (by omega) (by omega)]
 omega
theorem C4 {x:Expr} (hx:x.dep≤1500000) (h:i9 x=false):(bS x 1).length≤256∧∀ z∈bS x 1,z.depth≤16:=by
 simp only [i9,Bool.or_eq_false_iff,decide_eq_false_iff_not] at h
 have h1:=Gs x 256 (by decide) (by decide)
 have h2:=DG x hx 1 16 (by omega)
 refine ⟨?_,fun z hz=>by have:=h2 z hz;omega⟩
 show cnt x≤256
 omega
theorem wm (s:ByteArray):∀ (m i:Nat) (r:List UInt8),s.size - i=m→(ByteArray.toList.loop s i r).length=r.length+m
 | 0,i,r,h=>by rw [ByteArray.toList.loop];rw [if_neg (by omega)];simp
 | m+1,i,r,h=>by
  rw [ByteArray.toList.loop,if_pos (by omega),wm s m (i+1) _ (by omega),List.length_cons]
  omega
theorem xD (s:ByteArray):s.toList.length=s.size:=by
 have:=wm s s.size 0 [] (by omega)
 simpa [ByteArray.toList] using this
theorem I6 {α : Type} (c:Bool) (a b d:α):(bif c then (bif c then a else b) else d)=bif c then a else d:=by cases c <;> rfl
theorem JV (c x:Bool):(bif c then false else x)=(!c&&x):=by cases c <;> rfl
theorem JU (c x:Bool):(bif c then true else x)=(c||x):=by cases c <;> simp
theorem Gj (s:ByteArray):dc s=(cQ s&&!(kG s)):=by
 unfold dc kG
 simp only [I6]
 simp only [JV,JU,Bool.not_or,Bool.or_false]
 ac_rfl
theorem BS (c:Int):(gB c != 2)=!(gF c):=by
 unfold gB gF
 cases ((decide (97≤c)&&decide (c≤122))||(decide (65≤c)&&decide (c≤90))) <;> cases (decide (48≤c)&&decide (c≤57)) <;> cases (c==95) <;> cases ((((c==32)||(c==9))||(c==10))||(c==13)) <;> cases (decide (0≤(strings_IndexByte (⟨#[123,125,40,41,59,44,61,58,46,60,62,33,43,45,42,47]⟩:ByteArray) c))) <;> rfl
theorem ES (c:Int):(((gB c != 2)&&(gB c != 3))&&(gB c != 5))=!(ma c):=by
 unfold gB ma gF ju
 cases ((decide (97≤c)&&decide (c≤122))||(decide (65≤c)&&decide (c≤90))) <;> cases (decide (48≤c)&&decide (c≤57)) <;> cases (c==95) <;> cases ((((c==32)||(c==9))||(c==10))||(c==13)) <;> cases (decide (0≤(strings_IndexByte (⟨#[123,125,40,41,59,44,61,58,46,60,62,33,43,45,42,47]⟩:ByteArray) c))) <;> rfl
theorem Fy (s:ByteArray):∀ (l:List Nat) (i:Nat),cQ.L1 s cQ.K1 l i=fJ.L1 s fJ.K1 l i
 | [],i=>rfl
 | y::l,i=>by simp only [cQ.L1,fJ.L1,ES,Fy s l]
theorem IZ {s:ByteArray} (h:fJ s=true):cQ s=true:=by
 unfold fJ at h
 unfold cQ
 rw [BS,Fy]
 rw [Bool.cond_eq_ite] at h ⊢
 split at h
 ·cases h
 ·next hc=>
  simp only [Bool.or_eq_true,not_or,decide_eq_true_eq] at hc
  obtain ⟨⟨h1,h2⟩,h3⟩:=hc
  have e:(s.toList==(⟨#[]⟩:ByteArray).toList)=false:=by
   rw [Bool.eq_false_iff]
   intro he
   have he:=eq_of_beq he
   have h9:=xD s
   rw [he,xD] at h9
   have:(⟨#[]⟩:ByteArray).size=0:=rfl
   omega
  rw [e,if_neg]
  ·exact h
  ·simp only [Bool.false_or,Bool.or_eq_true,not_or,decide_eq_true_eq]
   exact ⟨h2,h3⟩
theorem FI {s:ByteArray} (h:jo s=true):dc s=true:=by
 simp only [jo,Bool.and_eq_true] at h
 rw [Gj,IZ h.1,h.2];rfl
theorem Am (s:ByteArray):∀ (l:List ByteArray) (i:Nat),dk.L1 s dk.K1 l i=aK.L1 s aK.K1 l i
 | [],i=>rfl
 | y::l,i=>by
  have:(y.toList==s.toList)=(s.toList==y.toList):=by rw [Bool.eq_iff_iff,beq_iff_eq,beq_iff_eq];exact eq_comm
  simp only [dk.L1,aK.L1,this,Am s l]
theorem rindex (l:List ByteArray) (s:ByteArray):dk l s=aK l s:=Am s l 0
theorem wO {l:List ByteArray} (h:dR l=true):bu l dc=true:=by
 have key:∀ (L l:List ByteArray) (i:Nat),dR.L1 L dR.K1 l i=true→bu.L1 L dc bu.K1 l i=true:=by
  intro L l
  induction l with
  | nil=>intros;rfl
  | cons y l ih=>
   intro i h
   simp only [dR.L1,Bool.cond_eq_ite] at h
   split at h
   ·cases h
   ·next hc=>
    simp only [Bool.or_eq_true,not_or,Bool.not_eq_true',Bool.not_eq_false,Bool.not_eq_true] at hc
    simp only [bu.L1,FI hc.1,← rindex,hc.2,Bool.not_true,Bool.or_self,cond_false]
    exact ih _ h
 exact key l l 0 h
theorem pp (off:List ByteArray) {f g:List ByteArray→Expr→Bool} (k:Bool):∀ (l:List Expr),(∀ y∈l,f off y=g off y)→bT.L1 f off k l=bT.L1 g off k l
 | [],_=>rfl
 | y::l,h=>by simp only [bT.L1,h y (List.mem_cons_self ..),pp off k l fun z hz=>h z (List.mem_cons_of_mem _ hz)]
theorem HE (off:List ByteArray) (x:Expr):bT off x=bT.F bT off x:=by
 have:=vY (fun f x=>bT.F (fun _ y=>f y) off x) (fun m x=>bT.go m off x) (fun m=>?_) (fun f g x h=>?_) x
 ·refine Eq.trans this ?_
  show bT.F _ off x=_
  unfold bT.F
  rw [pp off (f:=fun _ y=>bT.go y.dep off y) (g:=bT) _ x.L fun y hy=>rfl]
 ·funext x
  show bT.F (bT.go m) off x=bT.F _ off x
  unfold bT.F
  rw [pp off (f:=bT.go m) (g:=fun _ y=>bT.go m off y) _ x.L fun y hy=>rfl]
 ·show bT.F _ off x=bT.F _ off x
  unfold bT.F
  rw [pp off (f:=fun _ y=>f y) (g:=fun _ y=>g y) _ x.L h]
theorem AD (off:List ByteArray):∀ (l:List Expr),bT.L1 bT off bT.K1 l=true→∀ y∈l,bT off y=true
 | [],_=>fun _ h=>(List.not_mem_nil h).elim
 | y::l,h=>by
  simp only [bT.L1,Bool.cond_eq_ite] at h
  split at h
  ·cases h
  ·next hc=>
   intro z hz
   rcases List.mem_cons.1 hz with rfl | hz
   ·simpa using hc
   ·exact AD off l h z hz
theorem CV (off:List ByteArray) (x:Expr):bT off x=true→∀ d,∀ z∈bS x d,((!(cX z.x))||du off z.x.Name)=true:=by
 refine Expr.ind (P:=fun x=>bT off x=true→∀ d,∀ z∈bS x d,((!(cX z.x))||du off z.x.Name)=true) ?_ x
 intro x ih h d z hz
 rw [HE] at h
 unfold bT.F at h
 rw [Bool.cond_eq_ite] at h
 split at h
 ·cases h
 ·next hc=>
  rw [lM] at hz
  rcases List.mem_cons.1 hz with rfl | hz
  ·show ((!(cX x))||du off x.Name)=true
   unfold du cX
   rw [rindex] at hc
   by_cases h2:aK off x.Name < 0
   ·have:decide (aK off x.Name < 0)=true:=by simpa using h2
    rw [this,Bool.and_true] at hc
    simp only [Bool.not_eq_true] at hc
    rw [hc];rfl
   ·have:decide (0≤aK off x.Name)=true:=by simp;omega
    rw [this,Bool.or_true]
  ·obtain ⟨y,hy,hz⟩:=List.mem_flatMap.1 hz
   exact ih y hy (AD off x.L h y hy) (d+1) z hz
theorem nW (u:Bool) {f g:Expr→Bool→Bool} (k:Bool):∀ (l:List Expr),(∀ y∈l,f y u=g y u)→aO.L1 f u k l=aO.L1 g u k l
 | [],_=>rfl
 | y::l,h=>by simp only [aO.L1,h y (List.mem_cons_self ..),nW u k l fun z hz=>h z (List.mem_cons_of_mem _ hz)]
theorem Gk (x:Expr) (u:Bool):aO x u=aO.F aO x u:=by
 have:=vY (fun f x=>aO.F (fun y _=>f y) x u) (fun m x=>aO.go m x u) (fun m=>?_) (fun f g x h=>?_) x
 ·refine Eq.trans this ?_
  show aO.F _ x u=_
  unfold aO.F
  rw [nW u (f:=fun y _=>aO.go y.dep y u) (g:=aO) _ x.L fun y hy=>rfl]
 ·funext x
  show aO.F (aO.go m) x u=aO.F _ x u
  unfold aO.F
  rw [nW u (f:=aO.go m) (g:=fun y _=>aO.go m y u) _ x.L fun y hy=>rfl]
 ·show aO.F _ x u=aO.F _ x u
  unfold aO.F
  rw [nW u (f:=fun y _=>f y) (g:=fun y _=>g y) _ x.L h]
theorem yZ (u k:Bool):∀ (l:List Expr),aO.L1 aO u k l=true→(∀ y∈l,aO y u=true)∧k=true
 | [],h=>⟨fun _ h=>(List.not_mem_nil h).elim,h⟩
 | y::l,h=>by
  simp only [aO.L1,Bool.cond_eq_ite] at h
  split at h
  ·cases h
  ·next hc=>
   obtain ⟨h1,h2⟩:=yZ u k l h
   refine ⟨fun z hz=>?_,h2⟩
   rcases List.mem_cons.1 hz with rfl | hz
   ·simpa using hc
   ·exact h1 z hz
theorem Gl {x:Expr} {u:Bool} (h:aO.K1 x u=true):(aL x.Kind 1 4&&kindsP x.Kind x)=true∧(u=false→x.Kind≠4):=by
 unfold aO.K1 at h
 simp only [Bool.cond_eq_ite,beq_iff_eq] at h
 split at h
 ·next e=>
  rw [e]
  refine ⟨?_,fun _=>by decide⟩
  show (_&&jE x)=true
  unfold jE
  rw [h];rfl
 ·split at h
  ·next e=>
   rw [e]
   refine ⟨?_,fun _=>by decide⟩
   show (_&&jD x)=true
   unfold jD aL
   rw [h];rfl
  ·split at h
   ·next e=>
    rw [e]
    refine ⟨?_,fun _=>by decide⟩
    show (_&&jC x)=true
    unfold jC aL
    simp only [Bool.and_eq_true] at h ⊢
    exact ⟨⟨rfl,rfl⟩,⟨h.1.1.1.1,h.1.1.1.2,h.1.1.2⟩,h.1.2,h.2⟩
   ·split at h
    ·next e=>
     rw [e]
     simp only [Bool.and_eq_true] at h
     refine ⟨?_,fun hu=>by rw [hu] at h;simp at h⟩
     show (_&&iV x)=true
     unfold iV aL
     simp only [Bool.and_eq_true]
     exact ⟨⟨rfl,rfl⟩,⟨h.1.1.1.2,h.1.1.2⟩,h.1.2,h.2⟩
    ·cases h
theorem AR (u:Bool) (x:Expr):aO x u=true→∀ d,∀ z∈bS x d,(aL z.x.Kind 1 4&&kindsP z.x.Kind z.x)=true∧(u=false→z.x.Kind≠4):=by
 refine Expr.ind (P:=fun x=>aO x u=true→∀ d,∀ z∈bS x d,(aL z.x.Kind 1 4&&kindsP z.x.Kind z.x)=true∧(u=false→z.x.Kind≠4)) ?_ x
 intro x ih h d z hz
 rw [Gk] at h
 obtain ⟨h1,h2⟩:=yZ u _ x.L h
 rw [lM] at hz
 rcases List.mem_cons.1 hz with rfl | hz
 ·exact Gl h2
 ·obtain ⟨y,hy,hz⟩:=List.mem_flatMap.1 hz
  exact ih y hy (h1 y hy) (d+1) z hz
theorem rl1 (rec:List ByteArray→Expr→Expr) (off:List ByteArray) (k:List Expr→Expr):∀ (l g:List Expr),ab.L1 rec off k l g=k (g++l.map (rec off))
 | [],g=>by simp [ab.L1]
 | y::l,g=>by simp [ab.L1,rl1 rec off k l]
theorem rl2 (rec:List ByteArray→Expr→Expr) (off:List ByteArray) (k:List Expr→Expr):∀ (l g:List Expr),ab.L2 rec off k l g=k (g++l.map (rec off))
 | [],g=>by simp [ab.L2]
 | y::l,g=>by simp [ab.L2,rl2 rec off k l]
def rno (off:List ByteArray) (x:Expr):Int:=bif cX x then aK off x.Name else 0
theorem ED (rec:List ByteArray→Expr→Expr) (off:List ByteArray) (x:Expr):ab.F rec off x=Expr.mk x.Kind x.N (rno off x) x.Name (x.L.map (rec off)):=by
 unfold ab.F rno cX
 cases ((x.Kind==1)||(x.Kind==2))
 ·rw [cond_false,rl2];rfl
 ·rw [cond_true,rl1];unfold ab.K1;rw [rindex];rfl
theorem CC (off:List ByteArray) (x:Expr):ab off x=Expr.mk x.Kind x.N (rno off x) x.Name (x.L.map (ab off)):=by
 have:=vY (fun f x=>Expr.mk x.Kind x.N (rno off x) x.Name (x.L.map f)) (fun m x=>ab.go m off x) (fun m=>?_) (fun f g x h=>?_) x
 ·exact this
 ·funext x
  show ab.F (ab.go m) off x=_
  rw [ED]
 ·show Expr.mk _ _ _ _ _=Expr.mk _ _ _ _ _
  rw [List.map_congr_left h]
theorem xJ (b:Expr) {f g:Expr→Expr→Bool} (k:Bool):∀ (l:List Expr) (i:Nat),(∀ y∈l,f y=g y)→bJ.L1 f b k l i=bJ.L1 g b k l i
 | [],_,_=>rfl
 | y::l,i,h=>by simp only [bJ.L1,h y (List.mem_cons_self ..),xJ b k l (i+1) fun z hz=>h z (List.mem_cons_of_mem _ hz)]
theorem IQ (x:Expr):bJ x=bJ.F bJ x:=by
 refine vY bJ.F bJ.go (fun m=>rfl) (fun f g x h=>?_) x
 funext b
 unfold bJ.F
 rw [xJ b _ x.L 0 h]
theorem Fq (b:Expr):∀ (l:List Expr) (i:Nat),bJ.L1 bJ b bJ.K1 l i=true→∀ (j:Nat) (y:Expr),l[j]? = some y→bJ y (nthI b.L ((i+j:Nat):Int))=true
 | [],_,_,j,y,hj=>by simp at hj
 | z::l,i,h,j,y,hj=>by
  simp only [bJ.L1,Bool.cond_eq_ite] at h
  split at h
  ·cases h
  ·next hc=>
   cases j with
   | zero=>simp at hj;subst hj;simpa using hc
   | succ j=>have:=Fq b l (i+1) h j y (by simpa using hj);rw [show i+(j+1)=i+1+j from by omega];exact this
theorem IP (off:List ByteArray) (x:Expr):bJ (ab off x) x=true→∀ d,∀ z∈bS x d,z.x.No=rno off z.x:=by
 refine Expr.ind (P:=fun x=>bJ (ab off x) x=true→∀ d,∀ z∈bS x d,z.x.No=rno off z.x) ?_ x
 intro x ih h d z hz
 rw [IQ,CC] at h
 unfold bJ.F at h
 rw [Bool.cond_eq_ite] at h
 split at h
 ·cases h
 ·next hc=>
  simp only [Bool.or_eq_true,not_or,bne_iff_ne,ne_eq,Classical.not_not] at hc
  have hno:rno off x=x.No:=hc.1.1.2
  rw [lM] at hz
  rcases List.mem_cons.1 hz with rfl | hz
  ·exact hno.symm
  ·obtain ⟨y,hy,hz⟩:=List.mem_flatMap.1 hz
   obtain ⟨j,hj⟩:=List.getElem?_of_mem hy
   have h2:=Fq x _ 0 h j (ab off y) (by show (List.map (ab off) x.L)[j]? = _;rw [List.getElem?_map,hj];rfl)
   have hlt:=(List.getElem?_eq_some_iff.1 hj).1
   have hg:=df (xs:=x.L) (z:=((0+j:Nat):Int)) (by omega)
   rw [show (((0+j:Nat):Int)).toNat=j from by omega,hj] at hg
   rw [← Option.some.inj hg] at h2
   exact ih y hy h2 (d+1) z hz
theorem wu {off:List ByteArray} {x:Expr} (h:bJ (ab off x) x=true):bQ off x=true:=by
 unfold bQ bQ.K1
 rw [pb]
 exact IP off x h 1
def rrules (off:List ByteArray):List Rule→Nat→List Rule
 | [],_=>[]
 | y::l,i=>Rule.mk y.Kind ((i:Nat):Int) y.Think (ab off y.Expr)::rrules off l (i+1)
theorem xQ (off:List ByteArray):∀ (l:List Rule) (i j:Nat) (y:Rule),l[j]? = some y→(rrules off l i)[j]? = some (Rule.mk y.Kind ((i+j:Nat):Int) y.Think (ab off y.Expr))
 | [],_,j,y,h=>by simp at h
 | z::l,i,0,y,h=>by simp at h;subst h;rfl
 | z::l,i,j+1,y,h=>by
  have:=xQ off l (i+1) j y (by simpa using h)
  rw [show i+(j+1)=i+1+j from by omega]
  exact this
theorem zr (p:Policy):∀ (l:List Rule) (i:Nat) (g:List Rule),dh.L1 p (dh.K1 p) l i g=(Policy.mk p.Name p.Kinds p.Offices (g++rrules p.Offices l i) (ab p.Offices p.Change) p.Mode,0)
 | [],i,g=>by
  simp only [dh.L1,dh.K1,rrules,List.append_nil,Expr.eta]
 | y::l,i,g=>by
  simp only [dh.L1,zr p l,rrules,Expr.eta,List.append_assoc,List.singleton_append]
theorem FS (b:Policy):∀ (l:List Rule) (i:Nat),gu.L1 b gu.K1 l i=true→∀ (j:Nat) (y:Rule),l[j]? = some y→y.KindNo=(nthI b.Rules ((i+j:Nat):Int)).KindNo∧bJ y.Expr (nthI b.Rules ((i+j:Nat):Int)).Expr=true
 | [],_,_,j,y,hj=>by simp at hj
 | z::l,i,h,j,y,hj=>by
  simp only [gu.L1,Bool.cond_eq_ite] at h
  split at h
  ·cases h
  ·next hc=>
   simp only [Bool.or_eq_true,not_or,bne_iff_ne,ne_eq,Classical.not_not,Bool.not_eq_true',Bool.not_eq_false] at hc
   cases j with
   | zero=>simp at hj;subst hj;exact ⟨hc.1.1.2,hc.2⟩
   | succ j=>have:=FS b l (i+1) h j y (by simpa using hj);rw [show i+(j+1)=i+1+j from by omega];exact this
theorem AC (p:Policy) (k:Bool):∀ (l:List Rule),fN.L1 p k l=true→(∀ r∈l,bT p.Offices r.Expr=true)∧k=true
 | [],h=>⟨fun _ h=>(List.not_mem_nil h).elim,h⟩
 | y::l,h=>by
  simp only [fN.L1,Bool.cond_eq_ite] at h
  split at h
  ·cases h
  ·next hc=>
   obtain ⟨h1,h2⟩:=AC p k l h
   refine ⟨fun z hz=>?_,h2⟩
   rcases List.mem_cons.1 hz with rfl | hz
   ·simpa using hc
   ·exact h1 z hz
theorem C5 (k:Bool):∀ (l:List Rule),eM.L1 k l=false→∀ r∈l,i9 r.Expr=false
 | [],_=>fun _ h=>(List.not_mem_nil h).elim
 | y::l,h=>by
  simp only [eM.L1,Bool.cond_eq_ite] at h
  split at h
  ·cases h
  ·next hc=>
   intro z hz
   rcases List.mem_cons.1 hz with rfl | hz
   ·simpa using hc
   ·exact C5 k l h z hz
theorem za (p:Policy) (k:Bool):∀ (l:List Rule) (i:Nat),ft.L1 p k l i=true→(∀ (j:Nat) r,l[j]? = some r→((r.Kind.toList==(nthI p.Kinds (((i+j:Nat):Int))).toList)=true∧0≤r.Think∧r.Think < 1099511627776)∧aO r.Expr true=true)∧k=true
 | [],i,h=>⟨fun j r hj=>by simp at hj,h⟩
 | y::l,i,h=>by
  simp only [ft.L1,Bool.cond_eq_ite] at h
  split at h
  ·cases h
  ·next hc=>
   simp only [Bool.or_eq_true,not_or,decide_eq_true_eq,Bool.not_eq_true',Bool.not_eq_false] at hc
   obtain ⟨h1,h2⟩:=za p k l (i+1) h
   refine ⟨fun j r hj=>?_,h2⟩
   cases j with
   | zero=>simp at hj;subst hj;exact ⟨⟨hc.1.1.1,by omega,by omega⟩,hc.2⟩
   | succ j=>have:=h1 j r (by simpa using hj);rw [show i+(j+1)=i+1+j from by omega];exact this
theorem Ik {p:Policy} (hs:smP p) (h:fw p=0):cq p=0:=by
 unfold fw at h
 rw [Bool.cond_eq_ite] at h
 split at h
 ·next hc=>exact absurd h (by simpa using hc)
 ·next hR=>
  rw [Bool.cond_eq_ite] at h
  split at h
  ·omega
  ·next hS=>
   simp only [Bool.not_eq_true',Bool.not_eq_false] at hS
   unfold dh at hR hS
   cases hl:eM p with
   | true=>rw [hl] at hR;simp at hR
   | false=>
    rw [hl] at hR hS
    cases hn:fN p with
    | false=>rw [hn] at hR;simp at hR
    | true=>
     rw [hn] at hR hS
     cases hf:ft p with
     | false=>rw [hf] at hR;simp at hR
     | true=>
      rw [hf] at hS
      simp only [Bool.not_true,cond_false,zr,List.nil_append] at hS
      clear hR h
      unfold eM at hl
      rw [Bool.cond_eq_ite] at hl
      split at hl
      ·cases hl
      ·next h1=>
       simp only [Bool.or_eq_true,not_or,decide_eq_true_eq,Bool.not_eq_true] at h1
       have h2:=C5 _ _ hl
       unfold fN at hn
       rw [Bool.cond_eq_ite] at hn
       split at hn
       ·cases hn
       ·next h3=>
        simp only [Bool.or_eq_true,not_or,Bool.not_eq_true',Bool.not_eq_false] at h3
        obtain ⟨h4,h5⟩:=AC p _ _ hn
        unfold ft at hf
        rw [Bool.cond_eq_ite] at hf
        split at hf
        ·cases hf
        ·next h6=>
         simp only [Bool.or_eq_true,not_or,decide_eq_true_eq,bne_iff_ne,ne_eq,Classical.not_not] at h6
         obtain ⟨h7,h8⟩:=za p _ _ 0 hf
         unfold gu at hS
         rw [Bool.cond_eq_ite] at hS
         split at hS
         ·cases hS
         ·next h9=>
          simp only [Bool.or_eq_true,not_or,Bool.not_eq_true',Bool.not_eq_false] at h9
          have h10:=FS p _ 0 hS
          have hexp:∀ x,x∈ay p→(∃ r∈p.Rules,r.Expr=x)∨x=p.Change:=by
           intro x hx
           rw [ql] at hx
           simp only [List.mem_append,List.mem_map,List.mem_singleton] at hx
           exact hx
          rw [zm,rU,xH,CR]
          refine ⟨⟨⟨⟨by omega,by omega,by omega⟩,fun x hx=>?_⟩,⟨⟨FI h3.1.1,wO h3.1.2,wO h3.2⟩,fun x hx=>?_⟩,?_⟩,fun j r hj=>?_,wu h9.2⟩
          ·rcases hexp x hx with ⟨r,hr,rfl⟩ | rfl
           ·exact C4 (hs.2.1 r hr) (h2 r hr)
           ·exact C4 hs.2.2.1 h1.2
          ·rcases hexp x hx with ⟨r,hr,rfl⟩ | rfl
           ·exact CV p.Offices _ (h4 r hr) 1
           ·exact CV p.Offices _ h5 1
          ·unfold br br.K1 br.K2
           rw [nR,xp,BG]
           refine ⟨?_,fun j r hj=>?_,fun j x hj z hz=>?_⟩
           ·simp only [Bool.and_eq_true,decide_eq_true_eq,beq_iff_eq,aL]
            exact ⟨⟨by omega,h6.1.1.2⟩,by omega,by omega⟩
           ·have:=(h7 j r hj).1
            simp only [Bool.and_eq_true,decide_eq_true_eq,aL]
            exact ⟨this.1,this.2.1,by omega⟩
           ·have hlen:(ay p).length=p.Rules.length+1:=by rw [ql];simp
            rw [ql] at hj
            rcases Nat.lt_or_ge j p.Rules.length with hjl | hjl
            ·rw [List.getElem?_append_left (by simpa using hjl),List.getElem?_map] at hj
             obtain ⟨r,hr,rfl⟩:=Option.map_eq_some_iff.1 hj
             refine ⟨(AR true _ (h7 j r hr).2 1 z hz).1,?_⟩
             rw [hlen,wrap64 (by omega)]
             have:decide (((0+j:Nat):Int) < ((p.Rules.length+1:Nat):Int) - 1)=true:=by rw [decide_eq_true_eq];omega
             rw [this];rfl
            ·rw [List.getElem?_append_right (by simpa using hjl)] at hj
             have hj2:=List.mem_singleton.1 (List.mem_of_getElem? hj)
             subst hj2
             obtain ⟨k1,k2⟩:=AR false _ h8 1 z hz
             refine ⟨k1,?_⟩
             have:(z.x.Kind != 4)=true:=by simpa using k2 rfl
             rw [this,Bool.or_true]
          ·have h11:=h10 j _ (xQ p.Offices p.Rules 0 j r hj)
           have hlt:=(List.getElem?_eq_some_iff.1 hj).1
           have hg:=df (xs:=p.Rules) (z:=((0+j:Nat):Int)) (by omega)
           rw [show (((0+j:Nat):Int)).toNat=j from by omega,hj] at hg
           rw [← Option.some.inj hg] at h11
           dsimp only at h11
           exact ⟨by rw [← h11.1];simp,wu h11.2⟩
def Iy (v:Version):Prop:=(0≤v.No∧v.No≤1048576)∧(0≤v.At∧v.At < 1099511627776)∧(0≤v.Known∧v.Known < 1099511627776)∧fw v.Policy=0
theorem FM {L:List Version} {y:Version} {l:List Version} {i:Nat} (h:cT.L1 L cT.K1 (y::l) i=0):Iy y∧(0 < i→(nthI L (((i:Nat):Int) - 1)).No < y.No)∧cT.L1 L cT.K1 l (i+1)=0:=by
 simp only [cT.L1,Bool.cond_eq_ite] at h
 split at h
 ·omega
 ·next hc=>
  simp only [Bool.or_eq_true,not_or,decide_eq_true_eq,Bool.and_eq_true,Bool.not_eq_true',Bool.not_eq_false,bne_iff_ne,ne_eq,Classical.not_not,cp] at hc
  obtain ⟨⟨⟨⟨h1,h2⟩,h3⟩,h4⟩,h5⟩:=hc
  exact ⟨⟨by omega,h3,h4,h5⟩,fun hi=>by omega,h⟩
theorem FN (L:List Version):∀ (l pre:List Version) (x:Version),L=(pre++[x])++l→cT.L1 L cT.K1 l (pre.length+1)=0→(∀ y∈l,Iy y)∧(x::l).Pairwise (fun a b=>a.No < b.No)
 | [],_,_,_,_=>⟨fun _ h=>(List.not_mem_nil h).elim,by simp⟩
 | y::l,pre,x,h,hr=>by
  have hx:nthI L (((pre.length+1:Nat):Int) - 1)=x:=by
   have hb:0≤(((pre.length+1:Nat):Int) - 1)∧(((pre.length+1:Nat):Int) - 1) < (L.length:Int):=by rw [h];simp;omega
   have hg:=df hb
   rw [show ((((pre.length+1:Nat):Int) - 1)).toNat=pre.length from by omega,h] at hg
   rw [h];simpa using hg.symm
  obtain ⟨h1,h2,h3⟩:=FM hr
  have h2:=h2 (by omega)
  rw [hx] at h2
  have ih:=FN L l (pre++[x]) y (by rw [h];simp)
  rw [List.length_append,List.length_cons,List.length_nil,Nat.zero_add] at ih
  obtain ⟨i1,i2⟩:=ih h3
  refine ⟨fun z hz=>?_,List.pairwise_cons.2 ⟨fun z hz=>?_,i2⟩⟩
  ·rcases List.mem_cons.1 hz with rfl | hz
   ·exact h1
   ·exact i1 z hz
  ·rcases List.mem_cons.1 hz with rfl | hz
   ·exact h2
   ·have:=(List.pairwise_cons.1 i2).1 z hz;omega
theorem wR {l:List Version} (hs:smV l) (h:cT l=0):bA l=0:=by
 rw [nz]
 unfold cT at h
 rw [Bool.cond_eq_ite] at h
 split at h
 ·omega
 ·next hl=>
  simp only [decide_eq_true_eq] at hl
  have key:(∀ y∈l,Iy y)∧l.Pairwise (fun a b=>a.No < b.No):=by
   cases l with
   | nil=>exact ⟨fun _ h=>(List.not_mem_nil h).elim,List.Pairwise.nil⟩
   | cons y l=>
    obtain ⟨h1,_,h3⟩:=FM h
    obtain ⟨i1,i2⟩:=FN (y::l) l [] y rfl h3
    refine ⟨fun z hz=>?_,i2⟩
    rcases List.mem_cons.1 hz with rfl | hz
    ·exact h1
    ·exact i1 z hz
  refine ⟨by omega,fun v hv=>?_,key.2⟩
  have:=key.1 v hv
  obtain ⟨h1,h2,h3,h4⟩:=this
  exact ⟨by omega,by omega,h1,Ik (hs.2 v hv) h4⟩
theorem GY {r:Register} {doc:Int} {who:List Int} {known:Int} (hj:eX r=0) (hD:0≤ce r doc) (hk:0≤known∧known < 1099511627776) (hp:(∀ x∈who,0≤x∧x < 64)∧who.Pairwise (· < ·)):
  ∃ s,bd r doc who known=(s,0)∧EV (aX ⟨r,nthI r.Docs (ce r doc),known⟩ who) s 1099511627776:=by
 obtain ⟨d1,d2,d3,d4,d5,d6,d7⟩:=(uX r).1 hj
 obtain ⟨hd1,hd2,hd3⟩:=Fv hD
 have hd:=AS d6 _ hd2
 have hv:=(nz r.Versions).1 d5
 have hask:=Ip (r:=r) (doc:=doc) (known:=known) hD hk
 have c1:=(wz r.Appoints).symm.trans d1
 have c3:=(tM r.Interests).symm.trans d3
 generalize hdd:nthI r.Docs (ce r doc)=d at *
 refine ⟨(az ⟨r,d,known⟩).foldl (stepT (aX ⟨r,d,known⟩ who)) [],?_,?_⟩
 ·unfold bd
  rw [hj,zq,hask,EU hp]
  rfl
 ·refine Dg (fun x hx=>?_) fun a b h0 hab hs=>BQ who hd.Js hd.kind.1 h0 hab hs
  rcases hx with rfl | rfl | rfl | ⟨a,ha,rfl⟩ | ⟨a,ha,rfl⟩ | ⟨v,hvm,rfl | ⟨y,hy,rfl⟩⟩
  ·exact Int.le_refl _
  ·exact hd.at_.1
  ·have:=hd.e9;show 0≤d.Until;omega
  ·exact JT c1 a ha
  ·exact JS c3 a ha
  ·exact (hv.each v hvm).1.1
  ·have h1:=((hv.okV.2 v hvm).2 y hy).1
   have h2:=hd.at_.1
   show 0≤d.At+y.Think;omega
theorem An {α : Type} {R:α→Bool} {no:α→Int} {c:Int} (hc:c≠0):∀ (l:List α) (g:Int),prgChk R no c l g=0↔(∀ y∈l,R y=true∧g < no y)∧l.Pairwise (fun a b=>no a < no b)
 | [],g=>by simp [prgChk]
 | y::l,g=>by
  have ih:=An hc l (no y) (R:=R) (no:=no)
  simp only [prgChk,Bool.cond_eq_ite,Bool.or_eq_true,Bool.not_eq_true',decide_eq_true_eq]
  split
  ·next h=>simp only [hc,false_iff];rintro ⟨h1,_⟩;have:=h1 y (List.mem_cons_self ..);rcases h with h | h <;> simp_all;omega
  ·next h=>
   rw [ih]
   simp only [not_or,Bool.not_eq_false,Int.not_le] at h
   constructor
   ·rintro ⟨h1,h2⟩
    refine ⟨fun z hz=>?_,List.pairwise_cons.2 ⟨fun z hz=>(h1 z hz).2,h2⟩⟩
    rcases List.mem_cons.1 hz with rfl | hz
    ·exact h
    ·have:=h1 z hz;exact ⟨this.1,by omega⟩
   ·rintro ⟨h1,h2⟩
    obtain ⟨p1,p2⟩:=List.pairwise_cons.1 h2
    exact ⟨fun z hz=>⟨(h1 z (List.mem_cons_of_mem _ hz)).1,p1 z hz⟩,p2⟩
theorem officesP (l:List Appoint) (g:Int):cx.L1 cx.K1 l g=prgChk iq (·.No) 150 l g:=by
 induction l generalizing g with
 | nil=>rfl
 | cons y l ih=>simp only [cx.L1,prgChk,ih]
theorem yt {κ α : Type} [DecidableEq κ] (P:α→Prop) {z:α} (hz:P z) (x:κ):∀ (m:List (κ×α)),(∀ q∈m,P q.2)→P (mgetD m x z)
 | [],_=>hz
 | (k,v)::m,h=>by
  have ih:=yt P hz x m fun q hq=>h q (List.mem_cons_of_mem _ hq)
  unfold mgetD at ih ⊢
  unfold mget?
  split
  ·exact h (k,v) (List.mem_cons_self ..)
  ·exact ih
theorem rightH {hs:List (List Holder)} {n:Int} (h:cM hs n=true):∀ l∈hs,∀ y∈l,1≤y.Weight∧y.Weight≤64:=by
 have h3:∀ (k:List Int→Bool) (l:List Holder) (g:List Int),cM.L3 k l g=true→(∀ y∈l,1≤y.Weight∧y.Weight≤64)∧∃ g',k g'=true:=by
  intro k l
  induction l with
  | nil=>exact fun g h=>⟨fun _ h=>(List.not_mem_nil h).elim,g,h⟩
  | cons y l ih=>
   intro g h
   simp only [cM.L3,Bool.cond_eq_ite] at h
   split at h
   ·cases h
   ·next hc=>
    simp only [Bool.or_eq_true,decide_eq_true_eq,not_or] at hc
    obtain ⟨h1,h2⟩:=ih _ h
    refine ⟨fun z hz=>?_,h2⟩
    rcases List.mem_cons.1 hz with rfl | hz
    ·omega
    ·exact h1 z hz
 have h1:∀ (k:Bool) (l:List (List Holder)),cM.L1 k l=true→∀ m∈l,∀ y∈m,1≤y.Weight∧y.Weight≤64:=by
  intro k l
  induction l with
  | nil=>exact fun _ _ h=>(List.not_mem_nil h).elim
  | cons y l ih=>
   intro h m hm
   obtain ⟨h4,g',hg⟩:=h3 _ _ _ h
   simp only [Bool.cond_eq_ite] at hg
   split at hg
   ·cases hg
   ·rcases List.mem_cons.1 hm with rfl | hm
    ·exact h4
    ·exact ih hg m hm
 exact h1 _ hs h
theorem zp (q:bg) (o:Int):dF q o=(nthI q.holders o).filter fun y=>q.who.contains y.Person:=by
 have:∀ l:List Holder,bF.L1 q [] l=l.filter fun y=>q.who.contains y.Person:=by
  intro l
  induction l with
  | nil=>rfl
  | cons y l ih=>
   simp only [bF.L1,slices_BinarySearch_int,List.filter_cons,ih]
   cases q.who.contains y.Person <;> rfl
 exact this _
theorem wN {α : Type} {p p':α→Bool}:∀ {l:List α},(∀ x∈l,p x=true→p' x=true)→(l.filter p).Sublist (l.filter p')
 | [],_=>List.Sublist.refl _
 | x::l,h=>by
  have ih:=wN (l:=l) fun y hy=>h y (List.mem_cons_of_mem _ hy)
  have hx:=h x (List.mem_cons_self ..)
  rw [List.filter_cons,List.filter_cons]
  cases h1:p x with
  | true=>rw [hx h1];exact ih.cons_cons _
  | false=>
   cases p' x with
   | true=>exact ih.cons _
   | false=>exact ih
structure Iz (q q':bg):Prop where
 value:q'.value=q.value
 holders:q'.holders=q.holders
 who:∀ l∈q.holders,∀ y∈l,y.Person∈q.who→y.Person∈q'.who
 wt:∀ l∈q.holders,∀ y∈l,1≤y.Weight∧y.Weight≤64
 len:∀ l∈q.holders,l.length≤2000000
theorem Bt {α : Type} [Inhabited α] {P:α→Prop} {l:List α} (h:∀ y∈l,P y) (hd:P default) (z:Int):P (nthI l z):=by
 by_cases hz:z.toNat < l.length
 ·have:nthI l z=l[z.toNat]:=by simp [nthI,List.getD_eq_getElem?_getD,hz]
  rw [this];exact h _ (List.getElem_mem _)
 ·have:nthI l z=default:=by simp [nthI,List.getD_eq_getElem?_getD,hz]
  rw [this];exact hd
theorem zo {q q':bg} (h:Iz q q') (o:Int):(dF q o).Sublist (dF q' o):=by
 rw [zp,zp,h.holders]
 have hw:∀ y∈nthI q.holders o,y.Person∈q.who→y.Person∈q'.who:=Bt (P:=fun l:List Holder=>∀ y∈l,y.Person∈q.who→y.Person∈q'.who) h.who (fun _ h=>(List.not_mem_nil h).elim) o
 exact wN fun y hy1 hy=>by simp only [List.contains_iff_mem] at hy ⊢;exact hw y hy1 hy
theorem Iq {q q':bg} (h:Iz q q') (o:Int):(∀ y∈dF q' o,1≤y.Weight∧y.Weight≤64)∧(dF q' o).length≤2000000:=by
 rw [zp,h.holders]
 have h1:(∀ y∈nthI q.holders o,1≤y.Weight∧y.Weight≤64)∧(nthI q.holders o).length≤2000000:=Bt (P:=fun l:List Holder=>(∀ y∈l,1≤y.Weight∧y.Weight≤64)∧l.length≤2000000) (fun l hl=>⟨h.wt l hl,h.len l hl⟩) ⟨(fun _ h=>(List.not_mem_nil h).elim),Nat.zero_le _⟩ o
 exact ⟨fun y hy=>h1.1 y (List.mem_filter.1 hy).1,Nat.le_trans (List.length_filter_le _ _) h1.2⟩
def wsum (l:List Holder):Int:=(l.map (·.Weight)).sum
theorem AX:∀ {l m:List Holder},l.Sublist m→(∀ y∈m,1≤y.Weight∧y.Weight≤64)→wsum l≤wsum m
 | _,_,.slnil,_=>Int.le_refl _
 | _,_,.cons (l₂:=m) y hs,h=>by
  have ih:=AX hs fun z hz=>h z (List.mem_cons_of_mem _ hz)
  have:=h y (List.mem_cons_self ..)
  simp only [wsum,List.map_cons,List.sum_cons] at ih ⊢;omega
 | _,_,.cons_cons (l₂:=m) y hs,h=>by
  have ih:=AX hs fun z hz=>h z (List.mem_cons_of_mem _ hz)
  simp only [wsum,List.map_cons,List.sum_cons] at ih ⊢;omega
theorem vA (k:Int→Bool):∀ (l:List Holder) (g:Int),0≤g→g+64 * l.length≤1000000000000→(∀ y∈l,1≤y.Weight∧y.Weight≤64)→cL.L1 k l g=k (g+wsum l)
 | [],g,_,_,_=>by simp [cL.L1,wsum]
 | y::l,g,h0,hb,h=>by
  have hy:=h y (List.mem_cons_self ..)
  rw [List.length_cons] at hb
  have e:IntKind.wrap .i64 (g+y.Weight)=g+y.Weight:=wrap64 (by omega)
  simp only [cL.L1,e]
  rw [vA k l _ (by omega) (by omega) fun z hz=>h z (List.mem_cons_of_mem _ hz)]
  simp only [wsum,List.map_cons,List.sum_cons]
  rw [Int.add_assoc]
theorem Hz (rec:bg→Expr→Bool) (q:bg) (k:Int→Bool):∀ (l:List Expr) (g:Int),0≤g→g+l.length≤1000000000000→da.L1 rec q k l g=k (g+(l.countP (rec q):Nat))
 | [],g,_,_=>by simp [da.L1]
 | y::l,g,h0,hb=>by
  rw [List.length_cons] at hb
  have e:IntKind.wrap .i64 (g+1)=g+1:=wrap64 (by omega)
  simp only [da.L1,e]
  rw [Hz rec q k l g h0 (by omega),Hz rec q k l (g+1) (by omega) (by omega),List.countP_cons]
  cases rec q y
  ·simp
  ·simp only [cond_true,if_true];congr 1;omega
theorem wJ {q q':bg} (h:Iz q q'):∀ (m:Nat) (x:Expr),x.dep≤2000000→co.go m q x=true→co.go m q' x=true
 | 0,x,_,hx=>hx
 | m+1,x,hd,hx=>by
  have ih:=wJ h m
  simp only [co.go,co.F,fulQ] at hx ⊢
  split
  ·next hk=>
   rw [if_pos hk] at hx
   unfold dD at hx ⊢
   have hs:=zo h x.No
   cases e:dF q x.No with
   | nil=>rw [e] at hx;cases hx
   | cons y l=>
    rw [e] at hs
    cases e2:dF q' x.No with
    | nil=>rw [e2] at hs;cases hs
    | cons z l=>rfl
  ·next hk=>
   rw [if_neg hk] at hx
   split
   ·next hk2=>
    rw [if_pos hk2] at hx
    unfold cL at hx ⊢
    obtain ⟨w1,w2⟩:=Iq h x.No
    have hs:=zo h x.No
    have hl:=hs.length_le
    rw [vA _ _ _ (Int.le_refl _) (by omega) fun y hy=>w1 y (hs.subset hy)] at hx
    rw [vA _ _ _ (Int.le_refl _) (by omega) w1]
    have:=AX hs w1
    simp only [cL.K1,decide_eq_true_eq] at hx ⊢
    omega
   ·next hk2=>
    rw [if_neg hk2] at hx
    split
    ·next hk3=>
     rw [if_pos hk3] at hx
     unfold da.F at hx ⊢
     have hl:=Expr.EK x
     rw [Hz _ _ _ _ _ (Int.le_refl _) (by omega)] at hx ⊢
     have:x.L.countP (co.go m q)≤x.L.countP (co.go m q'):=List.countP_mono_left fun y hy hh=>ih y (by have:=Expr.hY hy;omega) hh
     simp only [da.K1,decide_eq_true_eq] at hx ⊢
     omega
    ·next hk3=>
     rw [if_neg hk3] at hx
     unfold hO.F at hx ⊢
     have hsm:∀ z,(nthI x.L z).dep≤2000000:=Bt (P:=fun y:Expr=>y.dep≤2000000) (fun y hy=>by have:=Expr.hY hy;omega) (by decide)
     rw [h.value]
     rw [Bool.cond_eq_ite] at hx ⊢
     split
     ·next hc=>rw [if_pos hc] at hx;exact ih _ (hsm _) hx
     ·next hc=>rw [if_neg hc] at hx;exact ih _ (hsm _) hx
theorem BU {p:Policy} {kind value:Int} {hs:List (List Holder)} {w w':List Int} (hp:smP p) (hl:∀ l∈hs,l.length≤2000000) (hw:∀ l∈hs,∀ y∈l,y.Person∈w→y.Person∈w') (hw':de w'=true) (hk:kind < (p.Rules.length:Int))
  (h:((cf p kind value hs w).1&&((cf p kind value hs w).2==0))=true):((cf p kind value hs w').1&&((cf p kind value hs w').2==0))=true:=by
 unfold cf at h ⊢
 cases hc:(cq p != 0) with
 | true=>rw [hc] at h;simp at h
 | false=>
  rw [hc] at h
  simp only [cond_false] at h ⊢
  cases ha:(((decide (kind < 0)||decide (((p.Kinds.length:Nat):Int)≤kind))||decide (value < 0))||decide (1099511627776 < value)) with
  | true=>rw [ha] at h;simp at h
  | false=>
   rw [ha] at h
   simp only [cond_false] at h ⊢
   cases hr:cM hs ((p.Offices.length:Nat):Int) with
   | false=>rw [hr] at h;simp at h
   | true=>
    rw [hr] at h
    simp only [Bool.not_true,cond_false] at h ⊢
    cases hq:de w with
    | false=>rw [hq] at h;simp at h
    | true=>
     rw [hq] at h
     rw [hw']
     simp only [Bool.not_true,cond_false,beq_self_eq_true,Bool.and_true] at h ⊢
     simp only [Bool.or_eq_false_iff,decide_eq_false_iff_not] at ha
     have hx:(nthI p.Rules kind).Expr.dep≤2000000:=Nat.le_trans (hp.2.1 _ (kO (by omega))) (by omega)
     exact wJ (q:=⟨value,hs,w⟩) (q':=⟨value,hs,w'⟩) ⟨rfl,rfl,hw,rightH hr,hl⟩ _ _ hx h
theorem vZ (f:Bool→Bool):∀ (l:List Bool) (i:Nat),decide (0≤cV.L1 f cV.K1 l i)=l.any f
 | [],i=>rfl
 | y::l,i=>by
  have ih:=vZ f l (i+1)
  simp only [cV.L1,List.any_cons,Bool.cond_eq_ite]
  split
  ·next h=>rw [h];simp
  ·next h=>rw [ih];simp [h]
def decV (mode:Int) (l:List Bool):Bool:=bif mode==4 then l.any id else bif mode==3 then l.any id&&!(l.any fun b=>!b) else (((l.length:Nat):Int)==1)&&nthI l 0
theorem Gv (mode:Int) (l:List Bool):fc mode l=bif fD mode l != 0 then (false,fD mode l) else (decV mode l,0):=by
 have y1:decide (0≤bW l dG)=l.any id:=vZ _ l 0
 have y2:decide (0≤bW l eK)=l.any fun b=>!b:=vZ _ l 0
 have L1:∀ (s:List Bool) i g,(aY.L1 (aY.K1 l) s i g).2=(l.any id,0):=by
  intro s
  induction s with
  | nil=>intro i g;simp only [aY.L1,aY.K1,y1]
  | cons y s ih=>intro i g;exact ih _ _
 have L2:∀ (s:List Bool) i g,(aY.L2 (aY.K2 l) s i g).2=((((l.length:Nat):Int)==1)&&nthI l 0,0):=by
  intro s
  induction s with
  | nil=>intro i g;rfl
  | cons y s ih=>intro i g;exact ih _ _
 have L3:∀ (s:List Bool) i g,(aY.L3 aY.K3 s i g).2=(false,0):=by
  intro s
  induction s with
  | nil=>intro i g;rfl
  | cons y s ih=>intro i g;exact ih _ _
 have e:fc mode l=(aY mode l).2:=rfl
 rw [e]
 unfold aY decV
 rw [y1,y2]
 cases (fD mode l != 0) with
 | true=>rfl
 | false=>
  simp only [cond_false]
  by_cases h4:mode=4
  ·subst h4
   cases h:l.any id with
   | true=>rfl
   | false=>
    have:((4:Int)==3)=false:=rfl
    simp only [beq_self_eq_true,Bool.and_false,cond_false,this,Bool.false_and,bne_self_eq_false,L3,cond_true]
  ·have e4:(mode==4)=false:=by simpa using h4
   have n4:(mode != 4)=true:=by simpa using h4
   rw [e4,n4]
   simp only [Bool.false_and,cond_false,cond_true]
   by_cases h3:mode=3
   ·subst h3
    cases h:l.any fun b=>!b with
    | true=>simp
    | false=>simp only [beq_self_eq_true,Bool.and_false,cond_false,L1,cond_true,Bool.not_false,Bool.and_true]
   ·have e3:(mode==3)=false:=by simpa using h3
    rw [e3]
    simp only [Bool.false_and,cond_false,L2]
theorem Gp {α : Type} {f g:α→Bool} (mode:Int) {l:List α} (h:∀ x∈l,f x=true→g x=true) (hd:decV mode (l.map f)=true):decV mode (l.map g)=true:=by
 have hany:(l.map f).any id=true→(l.map g).any id=true:=by
  simp only [List.any_map,List.any_eq_true,Function.comp,id]
  rintro ⟨x,hx,hf⟩;exact ⟨x,hx,h x hx hf⟩
 have hno:((l.map f).any fun b=>!b)=false→((l.map g).any fun b=>!b)=false:=by
  simp only [List.any_map,List.any_eq_false,Function.comp,Bool.not_eq_true',Bool.not_eq_false]
  exact fun hf x hx=>h x hx (hf x hx)
 unfold decV at hd ⊢
 rw [Bool.cond_eq_ite] at hd ⊢
 split
 ·next h4=>rw [if_pos h4] at hd;exact hany hd
 ·next h4=>
  rw [if_neg h4,Bool.cond_eq_ite] at hd
  rw [Bool.cond_eq_ite]
  split
  ·next h3=>
   rw [if_pos h3,Bool.and_eq_true,Bool.not_eq_true'] at hd
   rw [Bool.and_eq_true,Bool.not_eq_true']
   exact ⟨hany hd.1,hno hd.2⟩
  ·next h3=>
   rw [if_neg h3] at hd
   match l,h,hd with
   | [],_,hd=>exact hd
   | [x],h,hd=>
    have hx:f x=true:=hd
    have:=h x (List.mem_cons_self ..) hx
    show (true&&g x)=true
    rw [this];rfl
   | x::y::l,_,hd=>
    simp only [List.map_cons,List.length_cons,Bool.and_eq_true,beq_iff_eq] at hd
    omega
theorem ER {q:aH} {who who':List Int} (hs:smR q.Register) {t:Int} (hw:∀ p∈(ao q t).1,∀ l∈aw q p t,∀ y∈l,y.Person∈who→y.Person∈who') (hp:(∀ x∈who',0≤x∧x < 64)∧who'.Pairwise (· < ·)) (h:aX q who t=true):aX q who' t=true:=by
 unfold aX at h ⊢
 rw [Bool.cond_eq_ite] at h ⊢
 split at h
 ·cases h
 ·next hc=>
  rw [if_neg hc]
  rw [Jn,List.nil_append] at h ⊢
  unfold aX.K1 at h ⊢
  rw [Gv] at h ⊢
  have hlen:fD (ao q t).2 (List.map (cval q who' t) (ao q t).1)=fD (ao q t).2 (List.map (cval q who t) (ao q t).1):=by
   unfold fD;rw [List.length_map,List.length_map]
  rw [hlen]
  cases hck:(fD (ao q t).2 (List.map (cval q who t) (ao q t).1) != 0) with
  | true=>rw [hck] at h;simp at h
  | false=>
   rw [hck] at h
   simp only [cond_false,beq_self_eq_true,Bool.and_true] at h ⊢
   refine Gp _ (fun p hpm hv=>?_) h
   obtain ⟨v,hv1,hv2⟩:=qJ hpm
   have hsp:=hs.vers.2 v hv1
   rw [hv2] at hsp
   unfold cval at hv ⊢
   rw [Bool.cond_eq_ite] at hv ⊢
   split at hv
   ·next hk=>
    rw [if_pos hk]
    simp only [Bool.and_eq_true,decide_eq_true_eq] at hk
    refine BU hsp (sf hs.2.1 _ _) (fun l hl y hy hx=>?_) ?_ hk.1 hv
    ·unfold bp at hx ⊢
     obtain ⟨h1,h2⟩:=List.mem_filter.1 hx
     exact List.mem_filter.2 ⟨hw p hpm l hl y hy h1,h2⟩
    ·rw [Au]
     unfold bp
     exact ⟨fun x hx=>hp.1 x (List.mem_filter.1 hx).1,hp.2.sublist (List.filter_sublist ..)⟩
   ·next hk=>rw [if_neg hk];exact hv
theorem EE (who:List Int) (n:Int):∀ (l pre:List Int),who=pre++l→(∀ x∈pre,x≤n)→∃ a b,who=a++b∧bj.L1 who n (bj.K1 n) l pre.length pre=a++(n::b)∧(∀ x∈a,x≤n)∧(∀ x∈b,who.Pairwise (· < ·)→n < x)
 | [],pre,h,hpre=>⟨pre,[],by simpa using h,by simp [bj.L1,bj.K1],hpre,fun _ h=>(List.not_mem_nil h).elim⟩
 | y::l,pre,h,hpre=>by
  simp only [bj.L1,Bool.cond_eq_ite,decide_eq_true_eq]
  split
  ·next hy=>
   refine ⟨pre,y::l,h,?_,hpre,fun x hx hp=>?_⟩
   ·rw [show (((pre.length:Nat):Int)).toNat=pre.length from by omega,h];simp
   ·rcases List.mem_cons.1 hx with rfl | hx
    ·exact hy
    ·rw [h,List.pairwise_append] at hp
     have:=(List.pairwise_cons.1 hp.2.1).1 x hx;omega
  ·next hy=>
   obtain ⟨a,b,h1,h2,h3,h4⟩:=EE who n l (pre++[y]) (by rw [h];simp) (fun x hx=>by
    rcases List.mem_append.1 hx with hx | hx
    ·exact hpre x hx
    ·rw [List.mem_singleton.1 hx];omega)
   rw [List.length_append,List.length_cons,List.length_nil,Nat.zero_add] at h2
   exact ⟨a,b,h1,h2,h3,h4⟩
theorem Bn {who:List Int} {n:Int} (hp:(∀ x∈who,0≤x∧x < 64)∧who.Pairwise (· < ·)) (hn:0≤n∧n < 64) (hm:n∉who):((∀ x∈bj who n,0≤x∧x < 64)∧(bj who n).Pairwise (· < ·))∧∀ x,x∈bj who n↔x=n∨x∈who:=by
 obtain ⟨a,b,h1,h2,h3,h4⟩:=EE who n who [] rfl (fun _ h=>(List.not_mem_nil h).elim)
 have e:bj who n=a++(n::b):=h2
 have hmem:∀ x,x∈bj who n↔x=n∨x∈who:=fun x=>by
  rw [e,h1];simp only [List.mem_append,List.mem_cons]
  constructor
  ·rintro (h | h | h) <;> simp [h]
  ·rintro (h | h | h) <;> simp [h]
 refine ⟨⟨fun x hx=>?_,?_⟩,hmem⟩
 ·rcases (hmem x).1 hx with rfl | hx
  ·exact hn
  ·exact hp.1 x hx
 ·have h5:=hp.2
  rw [h1,List.pairwise_append] at h5
  rw [e,List.pairwise_append]
  refine ⟨h5.1,List.pairwise_cons.2 ⟨fun x hx=>h4 x hx hp.2,h5.2.1⟩,fun x hx y hy=>?_⟩
  have hxn:x < n:=by
   have:=h3 x hx
   have:x≠n:=fun q=>hm (by rw [h1,← q];exact List.mem_append_left _ hx)
   omega
  rcases List.mem_cons.1 hy with rfl | hy
  ·exact hxn
  ·exact h5.2.2 x hx y hy
theorem xl (who:List Int) (n:Int):(bj who n).length=who.length+1:=by
 obtain ⟨a,b,h1,h2,h3,h4⟩:=EE who n who [] rfl (fun _ h=>(List.not_mem_nil h).elim)
 have e:bj who n=a++(n::b):=h2
 rw [e,h1];simp;omega
theorem Ba (l:List Interest) (a b:Int):∃ p:Interest→Bool,bP l a b=l.filter p:=by
 have h1:∀ v (l:List Interest),bE.L1 v [] l=l.filter fun y=>(!y.Gone)&&decide (mgetD v (dz.mk y.Person y.Party y.Of) (Interest.mk 0 0 0 0 0 false false)=y):=by
  intro v l
  induction l with
  | nil=>rfl
  | cons y l ih=>
   simp only [bE.L1,List.filter_cons,ih]
   cases ((!y.Gone)&&decide (mgetD v (dz.mk y.Person y.Party y.Of) (Interest.mk 0 0 0 0 0 false false)=y)) <;> rfl
 have h2:∀ (k:List (dz×Interest)→List Interest) (l:List Interest) m,∃ m',bP.L1 a b k l m=k m':=by
  intro k l
  induction l with
  | nil=>exact fun m=>⟨m,rfl⟩
  | cons y l ih=>
   intro m
   simp only [bP.L1,Bool.cond_eq_ite]
   split
   ·exact ih _
   ·split
    ·exact ih _
    ·exact ih _
 obtain ⟨m',e⟩:=h2 (bP.K1 l) l []
 exact ⟨_,by unfold bP;rw [e];exact h1 m' l⟩
theorem Ci (l:List Interest) (a b:Int):(bP l a b).length≤l.length:=by
 obtain ⟨p,e⟩:=Ba l a b
 rw [e];exact List.length_filter_le _ _
theorem yq {α : Type} {k:Int} {v:α}:∀ {m:List (Int×α)},k∉m.map (·.1)→(mput m k v).length=m.length+1∧∀ p∈mput m k v,p=(k,v)∨p∈m
 | [],_=>by simp [mput]
 | (k',v')::m,hk=>by
  simp only [List.map_cons,List.mem_cons,not_or] at hk
  obtain ⟨h1,h2⟩:=yq (v:=v) hk.2
  simp only [mput,hk.1,if_false,List.length_cons,h1,List.mem_cons,true_and]
  rintro p (rfl | hp)
  ·exact .inr (.inl rfl)
  ·rcases h2 p hp with h | h
   ·exact .inl h
   ·exact .inr (.inr h)
theorem Bu {st:List Interest} {m:List (Int×Bool)} {q:List fY} (hg:qr st m q) {k:Int} (h:mgetD m k false=false):k∉m.map (·.1):=by
 intro hk
 obtain ⟨⟨k',v⟩,hp,rfl⟩:=List.mem_map.1 hk
 have:∀ {m:List (Int×Bool)},(∀ p∈m,p.2=true)→k'∈m.map (·.1)→mgetD m k' false=true:=by
  intro m
  induction m with
  | nil=>intro _ h;simp at h
  | cons p m ih=>
   intro ha hm
   obtain ⟨a,b⟩:=p
   by_cases e:k'=a
   ·have:=ha (a,b) (List.mem_cons_self ..)
    simp only at this
    simp [mgetD,mget?,e,this]
   ·simp only [List.map_cons,List.mem_cons,e,false_or] at hm
    have:=ih (fun p hp=>ha p (List.mem_cons_of_mem _ hp)) hm
    simpa [mgetD,mget?,e] using this
 rw [this (fun p hp=>(hg.1 p hp).1) hk] at h
 cases h
theorem px {st:List Interest} {m:List (Int×Bool)} {q:List fY} {w:fY} (hg:qr st m q) (hw:w.to∈st.map (·.Party)) (h8:w.path.length≤8):qr st (conPut w m q).1 (conPut w m q).2:=by
 unfold conPut
 cases h:mgetD m w.to false with
 | true=>exact hg
 | false=>
  obtain ⟨h1,h2⟩:=yq (v:=true) (Bu hg h)
  refine ⟨fun p hp=>?_,?_,fun w' hw'=>?_⟩
  ·rcases h2 p hp with rfl | hp
   ·exact ⟨rfl,hw⟩
   ·exact hg.1 p hp
  ·show (q++[w]).length≤(mput m w.to true).length
   rw [h1,List.length_append];have:=hg.2.1;simp;omega
  ·rcases List.mem_append.1 (show w'∈q++[w] from hw') with hw' | hw'
   ·exact hg.2.2 w' hw'
   ·rw [List.mem_singleton.1 hw'];exact h8
theorem sL {st:List Interest} {m:List (Int×Bool)} {q:List fY} {k:Int} {cap:Nat} (hg:qr st m q) (hn:(m.map (·.1)).Nodup) (hk:k∈st.map (·.Party)) (hc:st.length≤cap) (h:mgetD m k false=false):q.length < cap:=by
 have h1:=Bu hg h
 have h2:(k::m.map (·.1)).length≤(st.map (·.Party)).length:=vP (List.nodup_cons.2 ⟨h1,hn⟩) (fun x hx=>by
  rcases List.mem_cons.1 hx with rfl | hx
  ·exact hk
  ·obtain ⟨p,hp,rfl⟩:=List.mem_map.1 hx;exact (hg.1 p hp).2)
 simp only [List.length_cons,List.length_map] at h2
 have:=hg.2.1
 omega
theorem HG {st:List Interest} {m:List (Int×Bool)} {q:List fY} (hg:qr st m q) (hn:(m.map (·.1)).Nodup):m.length≤st.length:=by
 have:=vP (b:=st.map (·.Party)) hn (fun x hx=>by obtain ⟨p,hp,rfl⟩:=List.mem_map.1 hx;exact (hg.1 p hp).2)
 simpa using this
theorem BR {m:List (Int×Bool)} {q:List fY} {w:fY} (hn:(m.map (·.1)).Nodup):((conPut w m q).1.map (·.1)).Nodup:=by
 unfold conPut
 cases mgetD m w.to false with
 | true=>exact hn
 | false=>exact iW _ _ hn
theorem DH {st:List Interest} {m:List (Int×Bool)} {q:List fY} {w:fY} {N:Nat} (hg:qr st m q) (hn:(m.map (·.1)).Nodup) (hw:w.to∈st.map (·.Party)) (hN:st.length≤N):
  (conPut w m q).2.length+(N - (conPut w m q).1.length)≤q.length+(N - m.length):=by
 unfold conPut
 cases h:mgetD m w.to false with
 | true=>simp
 | false=>
  obtain ⟨h1,_⟩:=yq (v:=true) (Bu hg h)
  have h2:qr st (mput m w.to true) []:=by
   have:=px (w:=⟨[],w.to⟩) (q:=[]) (st:=st) (m:=m) ⟨hg.1,Nat.zero_le _,fun _ h=>(List.not_mem_nil h).elim⟩ hw (by simp)
   simp only [conPut,h,cond_false] at this
   exact ⟨this.1,Nat.zero_le _,fun _ h=>(List.not_mem_nil h).elim⟩
  have h3:=HG h2 (iW w.to true hn)
  show (q++[w]).length+(N - (mput m w.to true).length)≤_
  rw [h1] at h3
  rw [h1,List.length_append]
  simp;omega
theorem yu {α : Type} (m:List (Int×α)) (k j:Int) (v z:α):mgetD (mput m k v) j z=if j=k then v else mgetD m j z:=by
 induction m with
 | nil=>by_cases h:j=k <;> simp [mput,mgetD,mget?,h]
 | cons p m ih=>
  obtain ⟨a,b⟩:=p
  by_cases h:k=a
  ·subst h
   by_cases h2:j=k <;> simp [mput,mgetD,mget?,h2]
  ·by_cases h2:j=a
   ·subst h2
    have:¬ j=k:=fun e=>h e.symm
    simp [mput,h,mgetD,mget?,this]
   ·simp only [mgetD] at ih ⊢
    simp only [mput,h,if_false,mget?,h2]
    exact ih
theorem FV.put {st:List Interest} {f:List (Int×List Interest)} (hf:FV st f) {k:Int} {x:Interest} (hx:x∈st):FV st (mput f k (mgetD f k []++[x])):=by
 intro j y hy
 rw [yu] at hy
 split at hy
 ·rcases List.mem_append.1 hy with hy | hy
  ·exact hf k y hy
  ·rw [List.mem_singleton.1 hy];exact hx
 ·exact hf j y hy
theorem sT {α : Type} (A B:List α) (x y:α):(A++x::y::B).Perm (y::x::(A++B)):=
 List.perm_middle.trans ((List.Perm.cons x List.perm_middle).trans (List.Perm.swap y x _))
theorem vv {st:List Interest} {path:List Int} {N:Nat} (hN:st.length≤N) (h8:path.length+1≤8):∀ {xs:List Interest} {m:List (Int×Bool)} {q:List fY},(∀ x∈xs,x∈st)→qr st m q→(m.map (·.1)).Nodup →
  (conStep path xs m q).2.length+(N - (conStep path xs m q).1.length)≤q.length+(N - m.length)
 | [],m,q,_,_,_=>Nat.le_refl _
 | x::xs,m,q,hx,hg,hn=>by
  have hp:(fY.mk (path++[x.No]) x.Party).to∈st.map (·.Party):=List.mem_map_of_mem (hx x (List.mem_cons_self ..))
  have h1:=DH (w:=⟨path++[x.No],x.Party⟩) hg hn hp hN
  have h2:=vv (path:=path) hN h8 (xs:=xs) (fun y hy=>hx y (List.mem_cons_of_mem _ hy)) (px hg hp (by simpa using h8)) (BR hn)
  simp only [conStep]
  exact Nat.le_trans h2 h1
def lexb:List Int→List Int→Bool
 | x::a,y::b=>bif x != y then decide (x < y) else lexb a b
 | _,_=>false
theorem pF {α β : Type} {f:α→Option β}:∀ {l:List α},l.findSome? f=none→∀ x∈l,f x=none
 | [],_=>fun _ h=>(List.not_mem_nil h).elim
 | y::l,h=>by
  rw [List.findSome?_cons] at h
  split at h
  ·cases h
  ·next e=>
   intro x hx
   rcases List.mem_cons.1 hx with rfl | hx
   ·exact e
   ·exact pF h x hx
theorem oM {β : Type} {f:Nat→Option β} {b:β}:∀ (n fr:Nat),(List.range' fr n).findSome? f=some b→∃ i,fr≤i∧i < fr+n∧f i=some b∧∀ j,fr≤j→j < i→f j=none
 | 0,fr,h=>by simp at h
 | n+1,fr,h=>by
  rw [List.range'_succ,List.findSome?_cons] at h
  split at h
  ·next c e=>exact ⟨fr,Nat.le_refl _,by omega,by rw [e];exact h,fun j h1 h2=>by omega⟩
  ·next e=>
   obtain ⟨i,h1,h2,h3,h4⟩:=oM n (fr+1) h
   refine ⟨i,by omega,by omega,h3,fun j k1 k2=>?_⟩
   by_cases hj:j=fr
   ·rw [hj];exact e
   ·exact h4 j (by omega) k2
theorem Ai {help:List Int} {fr m:Nat} {x:Int} {S:List Int} (hs:(x::S).Sublist (help.drop fr)) (hm:S.length=m):∃ i,fr≤i∧i+m < help.length∧nthI help (i:Int)=x∧S.Sublist (help.drop (i+1)):=by
 induction hk:help.length - fr generalizing fr with
 | zero=>rw [List.drop_of_length_le (by omega)] at hs;cases hs
 | succ k ih=>
  have hlt:fr < help.length:=by omega
  rw [List.drop_eq_getElem_cons hlt] at hs
  cases hs with
  | cons _ h=>
   obtain ⟨i,h1,h2⟩:=ih h (by omega)
   exact ⟨i,by omega,h2⟩
  | cons_cons _ h=>
   refine ⟨fr,Nat.le_refl _,?_,ow (List.getElem?_eq_getElem hlt),h⟩
   have:=h.length_le
   rw [List.length_drop] at this;omega
theorem Bs {help:List Int} {fr i:Nat} {S:List Int} (h1:fr≤i) (h2:i < help.length) (h:S.Sublist (help.drop (i+1))):(nthI help (i:Int)::S).Sublist (help.drop fr):=by
 have e:help.drop i=nthI help (i:Int)::help.drop (i+1):=by
  rw [List.drop_eq_getElem_cons h2,ow (List.getElem?_eq_getElem h2)]
 have:(nthI help (i:Int)::S).Sublist (help.drop i):=by rw [e];exact h.cons_cons _
 have e2:help.drop i=(help.drop fr).drop (i - fr):=by rw [List.drop_drop];congr 1;omega
 rw [e2] at this
 exact this.trans (List.drop_sublist _ _)
theorem sP {c:List Int→Bool} {help:List Int}:∀ (m fr:Nat) (ws:List Int),tryP c help m fr ws=none→∀ S,S.Sublist (help.drop fr)→S.length=m→c (ws++S)=false
 | 0,fr,ws,h,S,hs,hm=>by
  have:S=[]:=List.length_eq_zero_iff.1 hm
  subst this
  simp only [tryP] at h
  cases e:c ws with
  | true=>rw [e] at h;cases h
  | false=>rw [List.append_nil];exact e
 | m+1,fr,ws,h,S,hs,hm=>by
  match S,hs,hm with
  | [],_,hm=>cases hm
  | x::S,hs,hm=>
   rw [List.length_cons] at hm
   obtain ⟨i,h1,h2,h3,h4⟩:=Ai (m:=m) hs (by omega)
   simp only [tryP] at h
   have:=pF h i (by rw [List.mem_range'];exact ⟨i - fr,by omega,by omega⟩)
   have:=sP m (i+1) _ this S h4 (by omega)
   rw [h3,List.append_assoc] at this
   exact this
theorem Af {c:List Int→Bool} {help:List Int} (hi:help.Pairwise (· < ·)):∀ (m fr:Nat) (ws l:List Int),tryP c help m fr ws=some l→∃ S,l=ws++S∧S.Sublist (help.drop fr)∧S.length=m∧c l=true∧∀ S',S'.Sublist (help.drop fr)→S'.length=m→c (ws++S')=true→lexb S' S=false
 | 0,fr,ws,l,h=>by
  simp only [tryP] at h
  cases e:c ws with
  | false=>rw [e] at h;cases h
  | true=>
   rw [e] at h
   obtain rfl:=Option.some.inj h
   exact ⟨[],by simp,List.nil_sublist _,rfl,e,fun S' _ _ _=>by cases S' <;> rfl⟩
 | m+1,fr,ws,l,h=>by
  simp only [tryP] at h
  obtain ⟨i,h1,h2,h3,h4⟩:=oM _ _ h
  obtain ⟨S,k1,k2,k3,k4,k5⟩:=Af hi m (i+1) _ l h3
  refine ⟨nthI help (i:Int)::S,by rw [k1];simp,Bs h1 (by omega) k2,by rw [List.length_cons,k3],k4,fun S' hs hm hc=>?_⟩
  match S',hs,hm with
  | [],_,hm=>cases hm
  | x::S',hs,hm=>
   rw [List.length_cons] at hm
   obtain ⟨j,j1,j2,j3,j4⟩:=Ai (m:=m) hs (by omega)
   rcases Nat.lt_trichotomy j i with g | g | g
   ·have:=sP m (j+1) _ (h4 j j1 g) S' j4 (by omega)
    rw [j3,List.append_assoc] at this
    rw [show ws++x::S'=ws++([x]++S') from rfl,this] at hc
    cases hc
   ·subst g
    have:=k5 S' j4 (by omega) (by rw [j3,List.append_assoc];exact hc)
    rw [← j3]
    simp [lexb,this]
   ·have hlt:nthI help (i:Int) < nthI help (j:Int):=by
     rw [ow (List.getElem?_eq_getElem (show i < help.length by omega)),ow (List.getElem?_eq_getElem (show j < help.length by omega))]
     exact List.pairwise_iff_getElem.1 hi i j (by omega) (by omega) g
    rw [j3] at hlt
    have e1:(x != nthI help (i:Int))=true:=by simp;omega
    have e2:decide (x < nthI help (i:Int))=false:=by simp;omega
    simp only [lexb,e1,e2,cond_true]
theorem Gd {c:List Int→Bool} {help:List Int} (h:needLoop c help=none) {S:List Int} (hs:S.Sublist help):c S=false:=by
 have:=pF h S.length (by rw [List.mem_range'];exact ⟨S.length,by have:=hs.length_le;omega,by omega⟩)
 simpa using sP _ _ _ this S (by simpa using hs) rfl
theorem AB {c:List Int→Bool} {help:List Int} (hi:help.Pairwise (· < ·)) {l:List Int} (h:needLoop c help=some l):l.Sublist help∧c l=true∧∀ S,S.Sublist help→c S=true→l.length≤S.length∧(S.length=l.length→lexb S l=false):=by
 obtain ⟨i,h1,h2,h3,h4⟩:=oM _ _ h
 obtain ⟨S,k1,k2,k3,k4,k5⟩:=Af hi i 0 [] l h3
 rw [List.nil_append] at k1
 subst k1
 rw [List.drop_zero] at k2
 refine ⟨k2,k4,fun S' hs hc=>⟨?_,fun hl=>?_⟩⟩
 ·rcases Nat.lt_or_ge S'.length l.length with g | g
  ·have:=sP _ _ _ (h4 S'.length (Nat.zero_le _) (by omega)) S' (by simpa using hs) rfl
   rw [List.nil_append] at this
   rw [this] at hc;cases hc
  ·exact g
 ·exact k5 S' (by simpa using hs) (by omega) (by simpa using hc)
theorem FC (k:List (Int×Bool)→List Int):∀ (l:List Holder) (m:List (Int×Bool)),av.L7 k l m=k (l.foldl (fun m y=>mput m y.Person true) m)
 | [],m=>rfl
 | y::l,m=>by simp only [av.L7,FC k l,List.foldl]
theorem FD (k:List (Int×Bool)→List Int):∀ (l:List (List Holder)) (m:List (Int×Bool)),av.L5 k l m=k (l.flatten.foldl (fun m y=>mput m y.Person true) m)
 | [],m=>rfl
 | y::l,m=>by simp only [av.L5,FC,FD k l,List.flatten_cons,List.foldl_append]
theorem BC (q:aH) (t:Int) (k:List (Int×Bool)→List Int):∀ (l:List Policy) (m:List (Int×Bool)),av.L1 q t k l m=k ((l.flatMap fun p=>(aw q p t).flatten).foldl (fun m y=>mput m y.Person true) m)
 | [],m=>rfl
 | y::l,m=>by simp only [av.L1,FD,BC q t k l,List.flatMap_cons,List.foldl_append]
theorem AK (q:aH) (person t:Int):(av q person t).Pairwise (· < ·):=by
 unfold av
 rw [Bool.cond_eq_ite]
 split
 ·exact List.Pairwise.nil
 ·rw [BC]
  unfold av.K1
  refine Aj (kD _) ((jX _).nodup_iff.2 ?_)
  exact (mX (fun y:Holder=>y.Person) _ [] List.nodup_nil).sublist ((uV person _).map _)
theorem AI (k:Int):∀ {m:List (Int×Bool)},(m.map (·.1)).Nodup→∀ x,x∈(mdel m k).map (·.1)↔x∈m.map (·.1)∧x≠k
 | [],_,x=>by simp [mdel]
 | (k',v')::m,hn,x=>by
  rw [List.map_cons,List.nodup_cons] at hn
  have ih:=AI k hn.2 x
  simp only [mdel]
  split
  ·next e=>
   subst e
   simp only [List.map_cons,List.mem_cons]
   constructor
   ·intro h;exact ⟨.inr h,fun e=>hn.1 (by rw [e] at h;exact h)⟩
   ·rintro ⟨h | h,hx⟩
    ·exact absurd h hx
    ·exact h
  ·next e=>
   simp only [List.map_cons,List.mem_cons,ih]
   constructor
   ·rintro (h | ⟨h1,h2⟩)
    ·exact ⟨.inl h,fun g=>e (by rw [← g,h])⟩
    ·exact ⟨.inr h1,h2⟩
   ·rintro ⟨h | h,hx⟩
    ·exact .inl h
    ·exact .inr ⟨h,hx⟩
theorem yF {q:aH} {person t:Int} (ht:¬ t < q.doc.At) (x:Int):x∈av q person t↔(∃ p∈(ao q t).1,∃ l∈aw q p t,∃ y∈l,x=y.Person)∧x≠person:=by
 unfold av
 rw [Bool.cond_eq_ite,if_neg (by simpa using ht),BC]
 unfold av.K1
 rw [(jX _).mem_iff]
 have:=AI person (mX (fun y:Holder=>y.Person) ((ao q t).1.flatMap fun p=>(aw q p t).flatten) [] List.nodup_nil) x
 rw [show List.map Prod.fst (mdel (List.foldl (fun m y=>mput m y.Person true) [] ((ao q t).1.flatMap fun p=>(aw q p t).flatten)) person)=(mdel (List.foldl (fun m y=>mput m y.Person true) [] ((ao q t).1.flatMap fun p=>(aw q p t).flatten)) person).map (·.1) from rfl,this,qh (fun y:Holder=>y.Person)]
 simp only [List.map_nil,List.not_mem_nil,false_or,List.mem_flatMap,List.mem_flatten]
 constructor
 ·rintro ⟨⟨y,⟨p,hp,l,hl,hy⟩,e⟩,h⟩;exact ⟨⟨p,hp,l,hl,y,hy,e⟩,h⟩
 ·rintro ⟨⟨p,hp,l,hl,y,hy,e⟩,h⟩;exact ⟨⟨y,⟨p,hp,l,hl,hy⟩,e⟩,h⟩
theorem HM (q:aH) (person t:Int):person∉av q person t:=by
 by_cases ht:t < q.doc.At
 ·unfold av
  rw [Bool.cond_eq_ite,if_pos (by simpa using ht)]
  exact List.not_mem_nil
 ·rw [yF ht];exact fun h=>h.2 rfl
theorem EJ (r:Register) (doc person at_ known:Int):(aA r doc person at_ known).1.length≤12:=by
 unfold aA
 rw [Bool.cond_eq_ite]
 split
 ·exact Nat.zero_le _
 ·rw [Bool.cond_eq_ite]
  split
  ·exact Nat.zero_le _
  ·rw [Bool.cond_eq_ite]
   split
   ·exact Nat.zero_le _
   ·next h=>
    simp only [decide_eq_true_eq] at h
    split
    ·next l e=>
     have:=(AB (AK _ _ _) e).1.length_le
     show l.length≤12
     omega
    ·exact Nat.zero_le _
theorem xS:∀ {a b:List Int},a.Pairwise (· < ·)→b.Pairwise (· < ·)→(∀ x∈a,x∈b)→a.Sublist b
 | [],b,_,_,_=>List.nil_sublist _
 | x::a,[],_,_,h=>absurd (h x (List.mem_cons_self ..)) List.not_mem_nil
 | x::a,y::b,ha,hb,h=>by
  obtain ⟨a1,a2⟩:=List.pairwise_cons.1 ha
  obtain ⟨b1,b2⟩:=List.pairwise_cons.1 hb
  by_cases e:x=y
  ·subst e
   refine (xS a2 b2 fun z hz=>?_).cons_cons _
   rcases List.mem_cons.1 (h z (List.mem_cons_of_mem _ hz)) with g | g
   ·have:=a1 z hz;omega
   ·exact g
  ·refine (xS ha b2 fun z hz=>?_).cons _
   rcases List.mem_cons.1 (h z hz) with g | g
   ·have hy:y < x:=by
     rcases List.mem_cons.1 (h x (List.mem_cons_self ..)) with g2 | g2
     ·exact absurd g2 e
     ·exact b1 x g2
    rcases List.mem_cons.1 hz with g3 | g3
    ·omega
    ·have:=a1 z g3;omega
   ·exact g
theorem Cj {w:List Int} {n:Int} (hp:(∀ x∈w,0≤x∧x < 64)∧w.Pairwise (· < ·)) (hn:0≤n∧n < 64) (hm:n∉w):sortI (w++[n])=bj w n:=by
 obtain ⟨⟨_,h2⟩,h3⟩:=Bn hp hn hm
 refine oY (kD _) (h2.imp fun h=>Int.le_of_lt h) ((jX _).trans ((List.perm_ext_iff_of_nodup ?_ (h2.imp fun h=>Int.ne_of_lt h)).2 fun x=>?_))
 ·exact List.nodup_append.2 ⟨hp.2.imp fun h=>Int.ne_of_lt h,List.nodup_cons.2 ⟨List.not_mem_nil,List.nodup_nil⟩,fun a ha b hb e=>hm (by rw [List.mem_singleton.1 hb] at e;rw [← e];exact ha)⟩
 ·rw [h3];simp only [List.mem_append,List.mem_singleton];exact or_comm
theorem EQ {q:aH} {w:List Int} {person t:Int} (hs:smR q.Register) (hp:(∀ x∈w,0≤x∧x < 64)∧w.Pairwise (· < ·)) (hn:0≤person∧person < 64) (hm:person∉w) (h:aX q (bj w person) t=true):
  aX q (sortI ((w.filter fun x=>(av q person t).contains x)++[person])) t=true:=by
 have hp':(∀ x∈w.filter fun x=>(av q person t).contains x,0≤x∧x < 64)∧(w.filter fun x=>(av q person t).contains x).Pairwise (· < ·):=⟨fun x hx=>hp.1 x (List.mem_filter.1 hx).1,hp.2.sublist (List.filter_sublist ..)⟩
 have hm':person∉w.filter fun x=>(av q person t).contains x:=fun h=>hm (List.mem_filter.1 h).1
 rw [Cj hp' hn hm']
 obtain ⟨g1,g2⟩:=Bn hp' hn hm'
 obtain ⟨_,g3⟩:=Bn hp hn hm
 have ht:¬ t < q.doc.At:=fun e=>by
  unfold aX at h
  rw [show decide (t < q.doc.At)=true from by simpa using e] at h
  cases h
 refine ER hs (fun p hpm l hl y hy hx=>?_) g1 h
 rw [g2,List.mem_filter]
 by_cases e:y.Person=person
 ·exact .inl e
 ·refine .inr ⟨((g3 y.Person).1 hx).resolve_left e,?_⟩
  rw [List.contains_iff_mem,yF ht]
  exact ⟨⟨p,hpm,l,hl,y,hy,rfl⟩,e⟩
theorem AU (b:List Int):∀ (l pre m:List Int),b=pre++m→l.length=m.length→dT.L1 b dT.K1 l pre.length=lexb l m
 | [],pre,m,_,_=>by cases m <;> rfl
 | x::l,pre,[],_,h=>by cases h
 | x::l,pre,y::m,h,hl=>by
  have hx:nthI b ((pre.length:Nat):Int)=y:=ow (by rw [h];simp)
  have ih:=AU b l (pre++[y]) m (by rw [h];simp) (by simpa using hl)
  rw [List.length_append,List.length_cons,List.length_nil,Nat.zero_add] at ih
  simp only [dT.L1,hx,lexb,ih]
theorem Gq (a b:List Int):dT a b=bif a.length != b.length then decide (a.length < b.length) else lexb a b:=by
 unfold dT
 have e1:(((a.length:Nat):Int) != ((b.length:Nat):Int))=(a.length != b.length):=by
  rw [Bool.eq_iff_iff];simp only [bne_iff_ne,ne_eq];omega
 have e2:decide (((a.length:Nat):Int) < ((b.length:Nat):Int))=decide (a.length < b.length):=by
  rw [Bool.eq_iff_iff];simp only [decide_eq_true_eq];omega
 rw [e1,e2,Bool.cond_eq_ite,Bool.cond_eq_ite]
 split
 ·rfl
 ·next h=>exact AU b a [] b rfl (by simpa using h)
theorem gm (l:List Int) (n:Int):(eG l n).length≤l.length+1:=by
 have key:∀ (s:List Int) (i:Nat),(eG.L1 n (eG.K1 l n) s i).length≤l.length+1:=by
  have hk:∀ i,(eG.K1 l n i).length≤l.length+1:=by
   intro i
   unfold eG.K1
   rw [Bool.cond_eq_ite]
   split
   ·omega
   ·simp only [List.length_append,List.length_take,List.length_drop,List.length_cons,List.length_nil];omega
  intro s
  induction s with
  | nil=>exact hk
  | cons y s ih=>
   intro i
   simp only [eG.L1,Bool.cond_eq_ite]
   split
   ·exact ih _
   ·exact hk _
 exact key l 0
theorem ij (l:List Int) (n:Int):(dP l n).length≤l.length+1:=by
 have key:∀ (s:List Int) (i:Nat),(dP.L1 n (dP.K1 l n) s i).length≤l.length+1:=by
  have hk:∀ i,(dP.K1 l n i).length≤l.length+1:=by
   intro i
   unfold dP.K1
   rw [Bool.cond_eq_ite]
   split
   ·omega
   ·simp only [List.length_append,List.length_take,List.length_drop,List.length_cons,List.length_nil];omega
  intro s
  induction s with
  | nil=>exact hk
  | cons y s ih=>
   intro i
   simp only [dP.L1,Bool.cond_eq_ite]
   split
   ·exact ih _
   ·exact hk _
 exact key l 0
theorem Bh (l:List Version) (a b c:Int):(bZ l a b c).length≤l.length+1:=by
 have k1:∀ (s:List Version) (g:List Int),(bZ.L1 l a b c bZ.K1 s g).length≤g.length+s.length:=by
  intro s
  induction s with
  | nil=>intro g;simp [bZ.L1,bZ.K1]
  | cons y s ih=>
   intro g
   simp only [bZ.L1,Bool.cond_eq_ite,List.length_cons]
   split
   ·have h1:=gm g ((nthI l (aJ l y.At c)).No)
    have h2:=ih (eG g ((nthI l (aJ l y.At c)).No))
    omega
   ·have:=ih g;omega
 have k2:∀ (s:List Version) (g:List Int),(bZ.L2 l a b c bZ.K2 s g).length≤g.length+s.length:=by
  intro s
  induction s with
  | nil=>intro g;simp [bZ.L2,bZ.K2]
  | cons y s ih=>
   intro g
   simp only [bZ.L2,Bool.cond_eq_ite,List.length_cons]
   split
   ·have h1:=gm g ((nthI l (aJ l y.At c)).No)
    have h2:=ih (eG g ((nthI l (aJ l y.At c)).No))
    omega
   ·have:=ih g;omega
 unfold bZ
 rw [Bool.cond_eq_ite]
 split
 ·have h1:=k1 l (eG [] ((nthI l (aJ l a c)).No))
  have h2:=gm [] ((nthI l (aJ l a c)).No)
  simp only [List.length_nil] at h2;omega
 ·have:=k2 l []
  simp only [List.length_nil] at this;omega
theorem CJ (l:List Version) (a b c:Int):(dQ l a b c).1.length≤l.length+1:=by
 have:=Bh l a b c
 unfold dQ
 simp only [Bool.cond_eq_ite]
 repeat' split
 all_goals first
  | exact this
  | (simp only [List.length_nil,List.length_cons];omega)
theorem uQ (l:List Appoint) (a b c:Int):(cD l a b c).1.length≤64:=by
 have k1:∀ (s:List Nat) (i:Nat) (g:List Holder),(cD.L1 l a b c cD.K1 s i g).1.length≤g.length+s.length:=by
  intro s
  induction s with
  | nil=>intro i g;simp [cD.L1,cD.K1]
  | cons y s ih=>
   intro i g
   simp only [cD.L1,Bool.cond_eq_ite,List.length_cons]
   split
   ·refine Nat.le_trans (ih _ _) ?_
    simp only [List.length_append,List.length_cons,List.length_nil];omega
   ·have:=ih (i+1) g;omega
 unfold cD
 simp only [Bool.cond_eq_ite]
 repeat' split
 ·exact Nat.zero_le _
 ·exact Nat.zero_le _
 ·have:=k1 (List.range 64) 0 []
  simp only [List.length_range,List.length_nil] at this;omega
theorem xT {r:Register} (h:okV r.Versions) (no:Int):(cZ r no).Policy.Offices.length≤32:=by
 unfold cZ
 rcases rV no r.Versions cZ.K1 with e | e
 ·rw [e];exact Nat.zero_le _
 ·exact (h.2 _ e).1.2
theorem vQ (P:Appoint→Prop) (key:Appoint→OSeat×Bool) (later:Appoint→Appoint→Bool):∀ (l:List Appoint) m,(∀ y∈l,P y)→(∀ q∈m,P q.2)→∀ q∈bO.L1 key later bO.K1 l m,P q.2
 | [],m,_,hm=>hm
 | y::l,m,hl,hm=>by
  have hl':=fun z hz=>hl z (List.mem_cons_of_mem y hz)
  simp only [bO.L1,Bool.cond_eq_ite]
  split
  ·refine vQ P key later l _ hl' fun q hq=>?_
   rcases sW hq with rfl | hq
   ·exact hl y (List.mem_cons_self ..)
   ·exact hm q hq
  ·exact vQ P key later l m hl' hm
theorem zu {l:List Appoint} {o t known:Int} (h:cx l=0):∀ y∈(dB l o t known).1,0≤y.Person∧y.Person < 64:=by
 have hl:∀ y∈l,0≤y.Person∧y.Person < 64:=by
  unfold cx at h
  rw [officesP,Bool.cond_eq_ite] at h
  split at h
  ·omega
  ·intro y hy
   have:=(((An (by omega) l (-1)).1 h).1 y hy).1
   unfold iq at this
   rw [Bool.cond_eq_ite] at this
   split at this <;> simp only [Bool.and_eq_true,eZ,cg,decide_eq_true_eq] at this <;> omega
 unfold dB
 rw [h]
 simp only [bne_self_eq_false,cond_false]
 cases hc:(((!(dE o))||(!(bB t)))||(!(bB known))) with
 | true=>exact fun _ h=>(List.not_mem_nil h).elim
 | false=>
  rw [cond_false,wP]
  intro y hy
  unfold gA bH bH.K1 at hy
  rw [oB] at hy
  obtain ⟨s,_,hs⟩:=List.mem_filterMap.1 hy
  have hv:=yt (fun a:Appoint=>0≤a.Person∧a.Person < 64) (z:=Appoint.mk 0 0 0 0 0 0 false) (by decide) s (eQ l t known) (vQ _ _ _ l [] hl (fun _ h=>(List.not_mem_nil h).elim))
  rw [Bool.cond_eq_ite] at hs
  split at hs
  ·cases hs
  ·rw [← Option.some.inj hs];exact hv
theorem Je (person:Int) (k:Bool→Bool):∀ (l:List Int) (g:Bool),aG.L1 person k l g=k (g||l.any fun y=>y==person)
 | [],g=>by simp [aG.L1]
 | y::l,g=>by simp only [aG.L1,Je person k l,List.any_cons,Bool.or_assoc]
theorem Jd (person:Int) (k:List Int→Bool):∀ (l g:List Int),aG.L2 person k l g=k (g++l.filter fun y=>y != person)
 | [],g=>by simp [aG.L2]
 | y::l,g=>by
  simp only [aG.L2,Jd person k l,List.filter_cons]
  cases y != person <;> simp
theorem Fp {W pre l:List Int} {y person:Int} (h:W=pre++(y::l)) (hi:W.Pairwise (· < ·)) (hm:person∉W):((y==person)||(decide (0 < ((pre.length:Nat):Int))&&decide (y≤(nthI W (((pre.length:Nat):Int) - 1)))))=false:=by
 have h1:(y==person)=false:=by simp;exact fun e=>hm (by rw [h,← e];simp)
 rw [h1,Bool.false_or]
 rcases List.eq_nil_or_concat pre with rfl | ⟨a,x,e⟩
 ·rfl
 ·rw [List.concat_eq_append] at e
  subst e
  have hx:nthI W ((((a++[x]).length:Nat):Int) - 1)=x:=by
   rw [show ((((a++[x]).length:Nat):Int) - 1)=((a.length:Nat):Int) from by simp]
   exact ow (by rw [h];simp)
  rw [hx]
  rw [h,List.pairwise_append] at hi
  have:=hi.2.2 x (by simp) y (List.mem_cons_self ..)
  have e2:decide (y≤x)=false:=by simp;omega
  rw [e2,Bool.and_false]
theorem Jc {r:Register} {doc person at_ known:Int} (k:Bool) (hi:(aA r doc person at_ known).1.Pairwise (· < ·)) (hm:person∉(aA r doc person at_ known).1):∀ (l pre:List Int),(aA r doc person at_ known).1=pre++l→aG.L3 r doc person at_ known k l pre.length=k
 | [],_,_=>rfl
 | y::l,pre,h=>by
  have ih:=Jc k hi hm l (pre++[y]) (by rw [h];simp)
  rw [List.length_append,List.length_cons,List.length_nil,Nat.zero_add] at ih
  simp only [aG.L3,Fp h hi hm,cond_false,ih]
theorem Jb {r:Register} {doc person at_ known:Int} (k:Bool) (hi:(aA r doc person at_ known).1.Pairwise (· < ·)) (hm:person∉(aA r doc person at_ known).1):∀ (l pre:List Int),(aA r doc person at_ known).1=pre++l→aG.L4 r doc person at_ known k l pre.length=k
 | [],_,_=>rfl
 | y::l,pre,h=>by
  have ih:=Jb k hi hm l (pre++[y]) (by rw [h];simp)
  rw [List.length_append,List.length_cons,List.length_nil,Nat.zero_add] at ih
  simp only [aG.L4,Fp h hi hm,cond_false,ih]
theorem AA {r:Register} {doc person at_ known:Int} (hj:eX r=0) (hD:0≤ce r doc) (hk:0≤known∧known < 1099511627776) (ht:0≤at_∧at_ < 1099511627776) (hn:0≤person∧person < 64):
  aA r doc person at_ known=(bif decide (12 < (((av ⟨r,nthI r.Docs (ce r doc),known⟩ person at_).length:Nat):Int)) then (([],false,2):List Int×Bool×Int) else match needLoop (needC ⟨r,nthI r.Docs (ce r doc),known⟩ person at_) (av ⟨r,nthI r.Docs (ce r doc),known⟩ person at_) with
   | some l=>(l,true,0)
   | none=>([],false,0)):=by
 unfold aA
 have h1:decide (person < 0)=false:=by simp;omega
 have h2:decide (64≤person)=false:=by simp;omega
 have h3:iY at_=true:=by simp [iY,ht]
 rw [hj,Ip hD hk,h1,h2,h3]
 rfl
theorem Ft {r:Register} {d:Document} {doc person at_ known:Int} {rest:List Int} (hs:smR r) (hj:eX r=0) (hD:0≤ce r doc) (hd:nthI r.Docs (ce r doc)=d) (hk:0≤known∧known < 1099511627776) (ht:0≤at_∧at_ < 1099511627776) (hn:0≤person∧person < 64)
  (hp:(∀ x∈rest,0≤x∧x < 64)∧rest.Pairwise (· < ·)) (hm:person∉rest) (h12:¬ 12 < (((av ⟨r,d,known⟩ person at_).length:Nat):Int)):
  (bd r doc (bj rest person) known).2=0 ∧
  ((aA r doc person at_ known).2.1=false→(aA r doc person at_ known).1=[]∧dY (bd r doc (bj rest person) known).1 at_=false) ∧
  ((aA r doc person at_ known).2.1=true→((aA r doc person at_ known).1.Pairwise (· < ·)∧person∉(aA r doc person at_ known).1) ∧
   ((((bd r doc (bj ((aA r doc person at_ known).1) person) known).2==0)&&(dY ((bd r doc (bj ((aA r doc person at_ known).1) person) known).1) at_))&&((!(dY ((bd r doc (bj rest person) known).1) at_))||(!(dT rest ((aA r doc person at_ known).1)))))=true):=by
 have hN:=AA (r:=r) (doc:=doc) (person:=person) (at_:=at_) (known:=known) hj hD hk ht hn
 rw [hd,show decide (12 < (((av ⟨r,d,known⟩ person at_).length:Nat):Int))=false from by simpa using h12,cond_false] at hN
 have hrise:=AK ⟨r,d,known⟩ person at_
 have hnot:=HM ⟨r,d,known⟩ person at_
 have hT:∀ w:List Int,(∀ x∈w,0≤x∧x < 64)∧w.Pairwise (· < ·)→person∉w→(bd r doc (bj w person) known).2=0∧dY (bd r doc (bj w person) known).1 at_=aX ⟨r,d,known⟩ (bj w person) at_:=fun w h1 h2=>by
  obtain ⟨s,e,g⟩:=GY (r:=r) (doc:=doc) (who:=bj w person) (known:=known) hj hD hk (Bn h1 hn h2).1
  rw [hd] at g
  rw [e]
  exact ⟨rfl,(Jg at_ s).trans (g.is at_ ht.1 ht.2)⟩
 obtain ⟨t1,t2⟩:=hT rest hp hm
 have hS:(rest.filter fun x=>(av ⟨r,d,known⟩ person at_).contains x).Sublist (av ⟨r,d,known⟩ person at_):=
  xS (hp.2.sublist (List.filter_sublist ..)) hrise fun x hx=>List.contains_iff_mem.1 (List.mem_filter.1 hx).2
 have hC:aX ⟨r,d,known⟩ (bj rest person) at_=true→needC ⟨r,d,known⟩ person at_ (rest.filter fun x=>(av ⟨r,d,known⟩ person at_).contains x)=true:=fun h=>EQ (q:=⟨r,d,known⟩) hs hp hn hm h
 refine ⟨t1,?_,?_⟩
 ·intro hok
  split at hN
  ·rw [hN] at hok;cases hok
  ·next e=>
   rw [hN]
   refine ⟨rfl,?_⟩
   rw [t2]
   have h0:=Gd e hS
   cases h:aX ⟨r,d,known⟩ (bj rest person) at_ with
   | false=>rfl
   | true=>rw [hC h] at h0;cases h0
 ·intro hok
  split at hN
  ·next l e=>
   rw [hN]
   obtain ⟨n1,n2,n3⟩:=AB hrise e
   have hl2:l.Pairwise (· < ·):=hrise.sublist n1
   have hlm:person∉l:=fun h=>hnot (n1.subset h)
   refine ⟨⟨hl2,hlm⟩,?_⟩
   have hlp:∀ x∈l,0≤x∧x < 64:=by
    by_cases ha:at_ < d.At
    ·have:av ⟨r,d,known⟩ person at_=[]:=by
      unfold av
      rw [Bool.cond_eq_ite,if_pos (by simpa using ha)]
     rw [this] at n1
     intro x hx;exact (List.not_mem_nil (n1.subset hx)).elim
    ·intro x hx
     obtain ⟨⟨p,hpm,hl,hlm2,y,hy,e⟩,_⟩:=(yF ha x).1 (n1.subset hx)
     rw [e]
     rw [nk] at hlm2
     obtain ⟨j,_,rfl⟩:=List.mem_map.1 hlm2
     exact zu ((uX r).1 hj).1 y hy
   obtain ⟨u1,u2⟩:=hT l ⟨hlp,hl2⟩ hlm
   have hc:aX ⟨r,d,known⟩ (bj l person) at_=true:=by
    rw [← Cj ⟨hlp,hl2⟩ hn hlm];exact n2
   rw [u1,u2,hc,t2]
   simp only [beq_self_eq_true,Bool.true_and]
   cases h:aX ⟨r,d,known⟩ (bj rest person) at_ with
   | false=>rfl
   | true=>
    obtain ⟨m1,m2⟩:=n3 _ hS (hC h)
    have hle:=List.length_filter_le (fun x=>(av ⟨r,d,known⟩ person at_).contains x) rest
    rw [Gq]
    by_cases hlen:rest.length=l.length
    ·rw [show (rest.length != l.length)=false from by simpa using hlen,cond_false]
     have hfull:(rest.filter fun x=>(av ⟨r,d,known⟩ person at_).contains x)=rest:=(List.filter_sublist ..).eq_of_length (by omega)
     have m3:=m2 (by omega)
     rw [hfull] at m3
     rw [m3];rfl
    ·rw [show (rest.length != l.length)=true from by simpa using hlen,cond_true]
     have:decide (rest.length < l.length)=false:=by simp;omega
     rw [this];rfl
  ·rw [hN] at hok;cases hok
theorem smallest_true {r:Register} (hs:smR r) (doc person at_ known:Int) (others:List Int):aG r doc person at_ known others=true:=by
 unfold aG
 rw [F2]
 simp only [Bool.not_true,cond_false]
 cases hg:(((!(eS r doc others [at_,known]))||decide (person < 0))||decide (64≤person)) with
 | true=>rw [Bool.true_or];rfl
 | false=>
  rw [Bool.false_or]
  cases hf:jY r doc person at_ known with
  | false=>rfl
  | true=>
   simp only [Bool.not_true,cond_false]
   simp only [Bool.or_eq_false_iff,Bool.not_eq_false',decide_eq_false_iff_not] at hg
   obtain ⟨⟨hr,g1⟩,g2⟩:=hg
   have hn:0≤person∧person < 64:=by omega
   have q:=IT hr
   have ht:=q.times at_ (List.mem_cons_self ..)
   have hk:=q.times known (List.mem_cons_of_mem _ (List.mem_cons_self ..))
   obtain ⟨c1,c2,c3,c4,c5,c6,c7⟩:=wQ q.check
   have hj:eX r=0:=(uX r).2 ⟨(wz r.Appoints).trans c1,(BP _).trans c2,(tM r.Interests).trans c3,(DN _).trans c4,wR hs.vers c5,zN c6,(zS _).trans c7⟩
   have hp:=EC q.people
   have hN:=AA (r:=r) (doc:=doc) (person:=person) (at_:=at_) (known:=known) hj q.doc0 hk ht hn
   by_cases h12:12 < (((av ⟨r,nthI r.Docs (ce r doc),known⟩ person at_).length:Nat):Int)
   ·rw [show decide (12 < (((av ⟨r,nthI r.Docs (ce r doc),known⟩ person at_).length:Nat):Int))=true from by simpa using h12,cond_true] at hN
    rw [hN];rfl
   ·have he:(aA r doc person at_ known).2.2=0:=by
     rw [show decide (12 < (((av ⟨r,nthI r.Docs (ce r doc),known⟩ person at_).length:Nat):Int))=false from by simpa using h12,cond_false] at hN
     rw [hN]
     split <;> rfl
    rw [he]
    simp only [bne_self_eq_false,cond_false]
    rw [Je,Bool.false_or]
    have hany:(others.any fun y=>y==person)=others.contains person:=by
     rw [Bool.eq_iff_iff,List.any_eq_true,List.contains_iff_mem]
     constructor
     ·rintro ⟨x,hx,e⟩;rw [← (beq_iff_eq.1 e)];exact hx
     ·intro h;exact ⟨person,h,by simp⟩
    rw [hany]
    unfold aG.K1
    cases hc:others.contains person with
    | true=>
     rw [cond_true,Jd,List.nil_append]
     have hp2:(∀ x∈others.filter fun y=>y != person,0≤x∧x < 64)∧(others.filter fun y=>y != person).Pairwise (· < ·):=⟨fun x hx=>hp.1 x (List.mem_filter.1 hx).1,hp.2.sublist (List.filter_sublist ..)⟩
     have hm:person∉others.filter fun y=>y != person:=fun h=>by have:=(List.mem_filter.1 h).2;simp at this
     obtain ⟨r1,r2,r3⟩:=Ft hs hj q.doc0 rfl hk ht hn hp2 hm h12
     unfold aG.K2
     rw [r1]
     simp only [bne_self_eq_false,cond_false]
     cases hok:(aA r doc person at_ known).2.1 with
     | false=>
      obtain ⟨k1,k2⟩:=r2 hok
      rw [k1,k2];rfl
     | true=>
      obtain ⟨⟨k1,k2⟩,k3⟩:=r3 hok
      rw [Bool.not_true,cond_false]
      exact (Jc _ k1 k2 _ [] rfl).trans k3
    | false=>
     have hm:person∉others:=fun h=>by rw [List.contains_iff_mem.2 h] at hc;cases hc
     obtain ⟨r1,r2,r3⟩:=Ft hs hj q.doc0 rfl hk ht hn hp hm h12
     rw [cond_false,r1]
     simp only [bne_self_eq_false,cond_false]
     cases hok:(aA r doc person at_ known).2.1 with
     | false=>
      obtain ⟨k1,k2⟩:=r2 hok
      rw [k1,k2];rfl
     | true=>
      obtain ⟨⟨k1,k2⟩,k3⟩:=r3 hok
      rw [Bool.not_true,cond_false]
      exact (Jb _ k1 k2 _ [] rfl).trans k3
end Go.Sg
namespace Go.Sg
section
variable {P:Program} {b:Frame} {n:Nat} {k:List Item} {F:List Frame→(Machine→Prop)→Prop} {e:Env} {ds:List Deferred} {X:Cx} {h:HF} {L:LH}
variable {ops:Array Oper} {l:List Oper} {d:Nat} {ty:TypeId} {pos:String} {af:Array Edge} {g:Option (Nat×Bool)}
def memN:List Nat→Nat→Bool
 | [],_=>false
 | a::l,s=>bif Nat.beq s a then true else memN l s
def mix (S:List Nat) (e' e:Env):Env:=fun s=>bif memN S s then e' s else e s
def subN:List Nat→List Nat→Bool
 | [],_=>true
 | a::l,S=>memN S a&&subN l S
def Agr (S:List Nat) (e e':Env):Prop:=∀ s,memN S s=false→e' s=e s
theorem Ir {S:List Nat} {e:Env}:Agr S e e:=fun _ _=>rfl
theorem I7 {S:List Nat} {e e':Env} {d:Nat} {w:Value} (hd:memN S d=true) (h:Agr S e e'):Agr S e (upd e' d w):=fun s hs=>by
 unfold upd
 cases hb:Nat.beq s d with
 | true=>rw [Nat.eq_of_beq_eq_true hb,hd] at hs;cases hs
 | false=>exact h s hs
theorem HH {S T:List Nat} (h:subN T S=true) {s:Nat} (hs:memN S s=false):memN T s=false:=by
 induction T with
 | nil=>rfl
 | cons a T ih=>
  simp only [subN,Bool.and_eq_true] at h
  simp only [memN]
  cases hb:Nat.beq s a with
  | true=>rw [Nat.eq_of_beq_eq_true hb,h.1] at hs;cases hs
  | false=>exact ih h.2
theorem I8 {S T:List Nat} {e e' e2:Env} (hT:subN T S=true) (h:Agr S e e'):Agr S e (mix T e2 e'):=fun s hs=>by
 unfold mix
 rw [HH hT hs];exact h s hs
theorem ar (m:Nat) (S:List Nat) (d:Nat) (v:Value)
  (t':(∀ e',e' d=v→(ha:Agr S e e':=by repeat (first | exact Ir | refine I7 rfl ?_ | refine I8 rfl ?_))→TO P b n ops (l.drop m) k F e' ds X h L)→TO P b n ops l k F e ds X h L)
  (hk:∀ e'',TO P b n ops (l.drop m) k F (upd (mix S e'' e) d v) ds X h L):TO P b n ops l k F e ds X h L:=
 t' fun e' hv ha=>by
  have e1:upd (mix S e' e) d v=e':=funext fun s=>by
   unfold upd
   cases hb:Nat.beq s d with
   | true=>rw [Nat.eq_of_beq_eq_true hb];exact hv.symm
   | false=>
    show mix S e' e s=e' s
    unfold mix
    cases hm:memN S s with
    | true=>rfl
    | false=>exact (ha s hm).symm
  have:=hk e'
  rw [e1] at this
  exact this
theorem ak {α : Type} {x y z:α} {c:Bool} {o:Operand} {p q:Code} (hs:x=bif c then y else z) (hx:e.ev o=.bool c)
  (t1:c=true→x=y→TT P b n (.code p::k) F e ds X h L) (t2:c=false→x=z→TT P b n (.code q::k) F e ds X h L):TT P b n (.code (.cond o p q)::k) F e ds X h L:=
 kC hx (fun e'=>t1 e' (hs.trans (by rw [e'];rfl))) (fun e'=>t2 e' (hs.trans (by rw [e'];rfl)))
end
end Go.Sg
namespace Go.Sg
inductive Qs
 | tt (k:List Item) (e:Env)
 | to (ops:Array Oper) (l:List Oper) (k:List Item) (e:Env)
@[reducible] def Qs.holds (P:Program) (b:Frame) (n:Nat) (F:List Frame→(Machine→Prop)→Prop) (ds:List Deferred) (X:Cx) (h:HF) (L:LH):Qs→Prop
 | .tt k e=>TT P b n k F e ds X h L
 | .to ops l k e=>TO P b n ops l k F e ds X h L
def opQ (e:Env):Op→Option Value
 | .move x=>some (e.ev x)
 | .assign x=>some (e.ev x)
 | .pick c x y=>match e.ev c with
  | .bool s=>some (bif s then e.ev x else e.ev y)
  | _=>none
 | .extract x i=>match e.ev x with
  | .tuple ⟨vs⟩=>nth vs i
  | _=>none
 | .unOp .not _ x=>match e.ev x with
  | .bool s=>some (.bool !s)
  | _=>none
 | .binOp op _ x y _=>binV op (e.ev x) (e.ev y)
 | _=>none
def qstepO (n:Nat) (ops:Array Oper) (l:List Oper) (k:List Item) (e:Env):Option Qs:=
 match l with
 | []=>some (.tt k e)
 | ⟨some d,op,ty,pos,af,g⟩::l=>
  match Nat.blt d n with
  | false=>none
  | true=>match guardB ops e ⟨some d,op,ty,pos,af,g⟩ with
   | false=>some (.to ops l k (upd e d undef))
   | true=>match opQ e op with
    | some v=>some (.to ops l k (upd e d v))
    | none=>none
 | _=>none
def qstepT (k:List Item) (e:Env):Option Qs:=
 match k with
 | .code .skip::k=>some (.tt k e)
 | .code (.seq x y)::k=>some (.tt (.code x::.code y::k) e)
 | .code (.block id c)::k=>some (.tt (.code c::.inBlock id::k) e)
 | .inBlock _::k=>some (.tt k e)
 | .code (.exit id)::k=>match exitTo id k with
  | some k'=>some (.tt k' e)
  | none=>none
 | .code (.cond c x y)::k=>match e.ev c with
  | .bool true=>some (.tt (.code x::k) e)
  | .bool false=>some (.tt (.code y::k) e)
  | _=>none
 | .code (.region _ ⟨l⟩ false)::k=>some (.to ⟨l⟩ l k e)
 | _=>none
def runQ (n:Nat):Nat→Qs→Option Qs
 | 0,s=>some s
 | m+1,.tt k e=>match qstepT k e with
  | some s=>runQ n m s
  | none=>none
 | m+1,.to ops l k e=>match qstepO n ops l k e with
  | some s=>runQ n m s
  | none=>none
section
variable {P:Program} {b:Frame} {n:Nat} {k:List Item} {F:List Frame→(Machine→Prop)→Prop} {e:Env} {ds:List Deferred} {X:Cx} {h:HF} {L:LH}
theorem Hx {op:Op} {v:Value} (hv:opQ e op=some v):noDefer op=true∧∀ (d:Option Nat) (ty:TypeId) (pos:String) (af:Array Edge) (g:Option (Nat×Bool)) w,(execOp e.ev ⟨d,op,ty,pos,af,g⟩).run P w=.ok (.value v) w:=by
 unfold opQ at hv
 split at hv
 ·cases hv;exact ⟨rfl,fun _ _ _ _ _ w=>by simp [execOp]⟩
 ·cases hv;exact ⟨rfl,fun _ _ _ _ _ w=>by simp [execOp]⟩
 ·split at hv
  ·next s hc=>cases hv;exact ⟨rfl,fun _ _ _ _ _ w=>by cases s <;> simp [execOp,hc,asBool]⟩
  ·cases hv
 ·split at hv
  ·next vs hx=>exact ⟨rfl,fun _ _ _ _ _ w=>by rw [gE] at hv;simp [execOp,hx,Instr.extract,hv]⟩
  ·cases hv
 ·split at hv
  ·next s hx=>cases hv;exact ⟨rfl,fun _ _ _ _ _ w=>by simp [execOp,hx,Op.unary]⟩
  ·cases hv
 ·next op t x y u=>
  exact ⟨rfl,fun _ _ _ _ _ w=>by
   have:=xP (P:=P) (t:=t) (x:=x) (y:=y) hv w
   simp only [execOp,Sem.run_bind] at this ⊢
   simp [this]⟩
 ·cases hv
theorem F9 {ops:Array Oper} {l:List Oper} {s:Qs} (hs:qstepO n ops l k e=some s) (t:s.holds P b n F ds X h L):TO P b n ops l k F e ds X h L:=by
 unfold qstepO at hs
 split at hs
 ·cases hs;exact bh t
 ·split at hs
  ·cases hs
  ·next hd=>
   split at hs
   ·next hg=>cases hs;exact JI t hd hg
   ·next hg=>
    split at hs
    ·next v hv=>
     cases hs
     obtain ⟨h1,h2⟩:=Hx (P:=P) hv
     exact pS v h1 (fun w _=>h2 _ _ _ _ _ w) hd hg t
    ·cases hs
 ·cases hs
theorem F8 {s:Qs} (hs:qstepT k e=some s) (t:s.holds P b n F ds X h L):TT P b n k F e ds X h L:=by
 unfold qstepT at hs
 split at hs
 ·cases hs;exact e8 t
 ·cases hs;exact em t
 ·cases hs;exact lK t
 ·cases hs;exact jF t
 ·split at hs
  ·next hx=>cases hs;exact m6 hx t
  ·cases hs
 ·split at hs
  ·next hc=>cases hs;exact lJ hc t
  ·next hc=>cases hs;exact mq hc t
  ·cases hs
 ·cases hs;exact bU t
 ·cases hs
theorem xj:∀ (m:Nat) (a:Qs) {s:Qs},runQ n m a=some s→s.holds P b n F ds X h L→a.holds P b n F ds X h L
 | 0,_,_,hr,t=>by cases hr;exact t
 | m+1,.tt k e,s,hr,t=>by
  unfold runQ at hr
  split at hr
  ·next s' hs=>exact F8 hs (xj m s' hr t)
  ·cases hr
 | m+1,.to ops l k e,s,hr,t=>by
  unfold runQ at hr
  split at hr
  ·next s' hs=>exact F9 hs (xj m s' hr t)
  ·cases hr
theorem qT (m:Nat) {s:Qs} (hr:runQ n m (.tt k e)=some s) (t:s.holds P b n F ds X h L):TT P b n k F e ds X h L:=xj m (.tt k e) hr t
theorem qO {ops:Array Oper} {l:List Oper} (m:Nat) {s:Qs} (hr:runQ n m (.to ops l k e)=some s) (t:s.holds P b n F ds X h L):TO P b n ops l k F e ds X h L:=xj m (.to ops l k e) hr t
end
end Go.Sg
namespace Go.Sg
theorem U.{u} {α : Sort u} {a:α}:a=a:=rfl
theorem kr {p:Prop} (h:p:=by kernel_rfl):p:=h
theorem ob {p:Prop} (h:p:=by first | assumption | omega | (simp only [] ;assumption) | (simp only [decide_eq_true_eq,decide_eq_false_iff_not,Bool.and_eq_true,Bool.or_eq_true,Bool.not_eq_true',Bool.not_eq_false',Bool.and_eq_false_iff,Bool.or_eq_false_iff,beq_iff_eq,beq_eq_false_iff_ne,bne_iff_ne,bne_eq_false_iff_eq,List.length_append,List.length_cons,List.length_nil,List.length_drop] at *;omega)):p:=h
theorem lo {p:Prop} (h:p:=by simp only [List.length_append,List.length_cons,List.length_nil,List.length_take,List.length_drop];omega):p:=h
theorem ap {p:Prop} (h:p:=by first | rfl | (simp only [List.append_assoc,List.cons_append,List.nil_append,List.append_nil];done) | (simp only [List.append_assoc,List.cons_append,List.nil_append,List.append_nil];rfl) | (rw [List.append_nil] <;> rfl)):p:=h
theorem lc {p:Prop} (h:p:=by first | omega | (simp only [List.length_nil,List.length_cons] at *;omega)):p:=h
theorem rd {p:Prop} (h:p:=by repeat (first | exact trivial | refine ⟨rfl,?_⟩)):p:=h
theorem jn {h:HF} {K L:LH} (hs:K.Sublist L:=by repeat (first | exact List.Sublist.refl _ | exact List.nil_sublist _ | exact List.sublist_append_left _ _ | refine List.Sublist.cons_cons _ ?_ | refine List.Sublist.cons _ ?_)):Jst h K h L:=Bx hs
theorem js {K L:LH} (hs:K.Sublist L:=by repeat (first | exact List.Sublist.refl _ | exact List.nil_sublist _ | exact List.sublist_append_left _ _ | refine List.Sublist.cons_cons _ ?_ | refine List.Sublist.cons _ ?_)):K.Sublist L:=hs
theorem cb {a b:Bool} (h:a=b):Value.bool a=Value.bool b:=congrArg Value.bool h
theorem cs {a b:Bool} (h:a=b):Value.bool b=Value.bool a:=congrArg Value.bool h.symm
theorem ci {a b:Int} (h:a=b):Value.int .i64 b=Value.int .i64 a:=congrArg (Value.int .i64) h.symm
abbrev O (l:List Value) (t:Nat):Obj:=Obj.cells l.toArray t (0,0)
abbrev Y (x:Int):Value:=.int .u8 x
abbrev Q (b:Nat):Value:=.pointer (some ⟨b,0,none⟩)
abbrev I (x:Int):Value:=.int .i64 x
theorem HF.le.t {a b c:HF} (x:a.le b) (y:b.le c):a.le c:=HF.le_trans x y
section
variable {P:Program} {b:Frame} {n:Nat} {k:List Item} {F:List Frame→(Machine→Prop)→Prop} {ds:List Deferred} {X:Cx}
theorem tf (i:Nat) {l:List Oper} {h1:HF} {K:LH} {m d:Nat} {oi:Oper} {v:Value} {dn:List Nat} {e:Env} {h:HF} {L:LH}
  (hi:nth l i=some oi) (hd:oi.dst=some d)
  (hr:∀ h' L',Jst h1 K h' L'→∀ w,St X h' L' w→(execOp e.ev oi).run P w=.ok (.value v) w)
  (t:TA P b n l.toArray k F ds X (Jst h1 K) m (i::dn) (upd e d v) h L) (hsep:sepAll l.toArray=true:=by assumption) (hJ:Jst h1 K h L:=by exact jn) (hn:(nexts l.toArray dn).contains i=true:=by kernel_rfl) (hg:guardB l.toArray e oi=true:=by rfl):TA P b n l.toArray k F ds X (Jst h1 K) (m+1) dn e h L:=
 nD i hsep hJ hi hd hn hg hr t
theorem tm (i:Nat) {l:List Oper} {h1:HF} {K:LH} {m d:Nat} {x:Operand} {ty:TypeId} {pos:String} {af:Array Edge} {g:Option (Nat×Bool)} {dn:List Nat} {e:Env} {h:HF} {L:LH}
  (hi:nth l i=some ⟨some d,.move x,ty,pos,af,g⟩)
  (t:TA P b n l.toArray k F ds X (Jst h1 K) m (i::dn) (upd e d (e.ev x)) h L) (hsep:sepAll l.toArray=true:=by assumption) (hJ:Jst h1 K h L:=by exact jn) (hn:(nexts l.toArray dn).contains i=true:=by kernel_rfl) (hg:guardB l.toArray e ⟨some d,.move x,ty,pos,af,g⟩=true:=by rfl):TA P b n l.toArray k F ds X (Jst h1 K) (m+1) dn e h L:=
 nD i hsep hJ hi rfl hn hg (fun _ _ _=>Hp) t
theorem tn (i:Nat) {l:List Oper} {h1:HF} {K:LH} {m:Nat} {oi:Oper} {dn:List Nat} {e:Env} {h:HF} {L:LH} (hi:nth l i=some oi)
  (t:Stp P b n l.toArray F ds X oi e h L fun e' h' L'=>Jst h1 K h' L'∧TA P b n l.toArray k F ds X (Jst h1 K) m (i::dn) e' h' L') (hn:nexts l.toArray dn=[i]:=by kernel_rfl):TA P b n l.toArray k F ds X (Jst h1 K) (m+1) dn e h L:=
 Ju i hn hi t
theorem sr {id:Nat} {l:List Oper} {y:Code} {e:Env} {h:HF} {L:LH} (t:TO P b n l.toArray l (.code y::k) F e ds X h L):TT P b n (.code (.seq (.region id l.toArray false) y)::k) F e ds X h L:=em (bU t)
theorem an {ops:Array Oper} {d:Nat} {x:Operand} {ty:TypeId} {pos:String} {af:Array Edge} {g:Option (Nat×Bool)} {e:Env} {h:HF} {L:LH} (t:TT P b n k F (upd e d (e.ev x)) ds X h L) (hd:Nat.blt d n=true:=by rfl) (hg:guardB ops e ⟨some d,.assign x,ty,pos,af,g⟩=true:=by rfl):TO P b n ops [⟨some d,.assign x,ty,pos,af,g⟩] k F e ds X h L:=fx (bh t) hd hg
theorem tq {ops:Array Oper} {l:List Oper} {e:Env} {h:HF} {L:LH} (m:Nat) (sl:List (Nat×Value)) (t':(∀ e',mQ e' sl→TO P b n ops (l.drop m) k F e' ds X h L)→TO P b n ops l k F e ds X h L) (hk:∀ e',TO P b n ops (l.drop m) k F (upds e' sl) ds X h L):TO P b n ops l k F e ds X h L:=Jt m sl hk t'
def runA (l:List Oper):List Nat→Nat→List Nat→Env→Option (Nat×List Nat×Env)
 | [],m,dn,e=>some (m,dn,e)
 | i::is,m,dn,e=>match m with
  | 0=>none
  | m+1=>match nth l i with
   | some ⟨some d,op,ty,pos,af,g⟩=>match guardB l.toArray e ⟨some d,op,ty,pos,af,g⟩ with
    | false=>runA l is m (i::dn) (upd e d undef)
    | true=>match opQ e op with
     | some v=>runA l is m (i::dn) (upd e d v)
     | none=>none
   | _=>none
def allNext (l:List Oper):List Nat→List Nat→Bool
 | [],_=>true
 | i::is,dn=>(nexts l.toArray dn).contains i&&allNext l is (i::dn)
theorem xk {l:List Oper} {h1:HF} {K:LH} {h:HF} {L:LH} (hsep:sepAll l.toArray=true) (hJ:Jst h1 K h L):∀ (is:List Nat) (m:Nat) (dn:List Nat) (e:Env) {m':Nat} {dn':List Nat} {e':Env},runA l is m dn e=some (m',dn',e')→allNext l is dn=true→TA P b n l.toArray k F ds X (Jst h1 K) m' dn' e' h L→TA P b n l.toArray k F ds X (Jst h1 K) m dn e h L
 | [],m,dn,e,_,_,_,hr,_,t=>by cases hr;exact t
 | i::is,0,dn,e,_,_,_,hr,_,_=>by simp [runA] at hr
 | i::is,m+1,dn,e,_,_,_,hr,hn,t=>by
  simp only [allNext,Bool.and_eq_true] at hn
  simp only [runA] at hr
  split at hr
  ·next hi=>
   split at hr
   ·next hg=>exact IJ i hsep hJ hi rfl hn.1 hg (xk hsep hJ is m _ _ hr hn.2 t)
   ·next hg=>
    split at hr
    ·next v hv=>exact nD i hsep hJ hi rfl hn.1 hg (fun _ _ _ w _=>(Hx hv).2 _ _ _ _ _ w) (xk hsep hJ is m _ _ hr hn.2 t)
    ·cases hr
  ·cases hr
theorem qA (is:List Nat) {l:List Oper} {h1:HF} {K:LH} {m:Nat} {dn:List Nat} {e:Env} {h:HF} {L:LH} {m':Nat} {dn':List Nat} {e':Env} (hr:runA l is m dn e=some (m',dn',e')) (t:TA P b n l.toArray k F ds X (Jst h1 K) m' dn' e' h L)
  (hsep:sepAll l.toArray=true:=by assumption) (hJ:Jst h1 K h L:=by exact jn) (hn:allNext l is dn=true:=by kernel_rfl):TA P b n l.toArray k F ds X (Jst h1 K) m dn e h L:=xk hsep hJ is m dn e hr hn t
theorem qR (a c:Nat) {l:List Oper} {h1:HF} {K:LH} {m:Nat} {dn:List Nat} {e:Env} {h:HF} {L:LH} {m':Nat} {dn':List Nat} {e':Env} (hr:runA l (List.range' a c) m dn e=some (m',dn',e')) (t:TA P b n l.toArray k F ds X (Jst h1 K) m' dn' e' h L)
  (hsep:sepAll l.toArray=true:=by assumption) (hJ:Jst h1 K h L:=by exact jn) (hn:allNext l (List.range' a c) dn=true:=by kernel_rfl):TA P b n l.toArray k F ds X (Jst h1 K) m dn e h L:=xk hsep hJ _ m dn e hr hn t
theorem tu {ops:Array Oper} {h1 h2:HF} {K:LH} (hle:h1.le h2) {m:Nat} {dn:List Nat} {e:Env} {h:HF} {L:LH} (t:TA P b n ops k F ds X (Jst h2 K) m dn e h L):TA P b n ops k F ds X (Jst h1 K) m dn e h L:=mS hle (fun _ hp=>hp) t
end
theorem jl {h h2:HF} {K L:LH} (hle:h.le h2) (hs:K.Sublist L:=by repeat (first | exact List.Sublist.refl _ | exact List.nil_sublist _ | exact List.sublist_append_left _ _ | refine List.Sublist.cons_cons _ ?_ | refine List.Sublist.cons _ ?_)):Jst h K h2 L:=⟨hle,fun _ hp=>hs.subset hp⟩
theorem sw {p:Prop} (h:p:=by first | exact fun w hw=>hw | (intro w hw;first | simpa only [List.append_assoc,List.cons_append,List.nil_append,List.append_nil] using hw | (simp only [List.append_assoc,List.cons_append,List.nil_append,List.append_nil] at hw ⊢;exact hw))):p:=h
end Go.Sg
namespace Go.Sg
open Go.Proofs
abbrev cN := @Tryz.underlying31
abbrev ga := @Tryz.underlying64
abbrev iN := @Tryz.underlying26
abbrev kK := @Tryz.underlying3
abbrev jR := @Tryz.underlying63
abbrev kB := @Tryz.underlying62
abbrev lC := @Tryz.underlying27
abbrev lI := @Tryz.func244
abbrev lH := @Tryz.func269
abbrev nB := @Tryz.underlying22
abbrev kS := @Tryz.underlying24
abbrev lg := @Tryz.underlying120
abbrev nh := @Tryz.underlying101
abbrev og := @Tryz.call265
abbrev oe := @Tryz.underlying34
abbrev rP := @Tryz.func6
abbrev uE := @Tryz.underlying9
abbrev rO := @Tryz.call172
abbrev rN := @Tryz.underlying98
abbrev tE := @Tryz.underlying23
abbrev tD := @Tryz.underlying25
abbrev tC := @Tryz.underlying28
abbrev tB := @Tryz.call242
abbrev uD := @Tryz.call103
abbrev uC := @Tryz.call33
abbrev wl := @Tryz.call145
abbrev tz_26 := @Tryz.underlying4
abbrev xA := @Tryz.underlying100
abbrev xz := @Tryz.call10
abbrev xy := @Tryz.func75
abbrev Ad := @Tryz.underlying46
abbrev Ac := @Tryz.call148
abbrev Ab := @Tryz.func247
abbrev Aa := @Tryz.func275
abbrev zZ := @Tryz.func217
abbrev zY := @Tryz.func98
abbrev zX := @Tryz.call24
abbrev zW := @Tryz.func253
abbrev zV := @Tryz.call120
abbrev Fh := @Tryz.underlying30
abbrev Ce := @Tryz.call90
abbrev Cd := @Tryz.call169
abbrev Cc := @Tryz.call218
abbrev Cb := @Tryz.func62
abbrev Ca := @Tryz.func48
abbrev B9 := @Tryz.underlying142
abbrev B8 := @Tryz.func146
abbrev B7 := @Tryz.func44
abbrev B6 := @Tryz.underlying127
abbrev B5 := @Tryz.func14
abbrev B4 := @Tryz.call14
abbrev B3 := @Tryz.call181
abbrev B1 := @Tryz.call230
abbrev BZ := @Tryz.call194
abbrev BY := @Tryz.call20
abbrev Fg := @Tryz.underlying59
abbrev Ff := @Tryz.underlying68
abbrev Fe := @Tryz.underlying207
abbrev Fd := @Tryz.underlying212
abbrev Fc := @Tryz.call219
abbrev Fb := @Tryz.func215
abbrev Fa := @Tryz.func216
abbrev E9 := @Tryz.func214
abbrev E8 := @Tryz.func94
abbrev E7 := @Tryz.call177
abbrev GS := @Tryz.underlying215
abbrev E6 := @Tryz.func84
abbrev E5 := @Tryz.func45
abbrev E4 := @Tryz.underlying145
abbrev E3 := @Tryz.func10
abbrev E2 := @Tryz.func39
abbrev E1 := @Tryz.func25
abbrev E0 := @Tryz.func113
abbrev EZ := @Tryz.call187
abbrev EY := @Tryz.func189
abbrev EX := @Tryz.func197
abbrev EW := @Tryz.func43
abbrev GR := @Tryz.underlying61
abbrev Kn := @Tryz.underlying5
abbrev GQ := @Tryz.func51
abbrev GP := @Tryz.func100
abbrev GO := @Tryz.func52
abbrev GN := @Tryz.func53
abbrev GM := @Tryz.call176
abbrev GL := @Tryz.func54
abbrev GK := @Tryz.func265
abbrev GJ := @Tryz.call221
abbrev GI := @Tryz.func241
abbrev GH := @Tryz.func159
abbrev GG := @Tryz.func55
abbrev GF := @Tryz.func56
abbrev GE := @Tryz.func57
abbrev GD := @Tryz.func109
abbrev GC := @Tryz.func209
abbrev GB := @Tryz.underlying203
abbrev GA := @Tryz.func212
abbrev Gz := @Tryz.underlying159
abbrev tz_97 := @Tryz.func208
abbrev Gy := @Tryz.func95
abbrev Gx := @Tryz.func248
abbrev Es := @Tryz.func160
abbrev Er := @Tryz.call97
abbrev Ep := @Tryz.func164
abbrev Eo := @Tryz.func140
abbrev En := @Tryz.func150
abbrev Em := @Tryz.func47
abbrev El := @Tryz.func12
abbrev Ek := @Tryz.func9
abbrev Ej := @Tryz.func112
abbrev Ei := @Tryz.call127
abbrev Eh := @Tryz.func67
abbrev Eg := @Tryz.func68
abbrev Ef := @Tryz.func114
abbrev Ee := @Tryz.func69
abbrev Ed := @Tryz.func115
abbrev Ec := @Tryz.func70
abbrev Eb := @Tryz.func227
abbrev Ea := @Tryz.func268
abbrev D9 := @Tryz.func252
abbrev D8 := @Tryz.func228
abbrev D7 := @Tryz.func229
abbrev D6 := @Tryz.func231
abbrev D5 := @Tryz.func232
abbrev D4 := @Tryz.func190
abbrev D3 := @Tryz.func116
abbrev D2 := @Tryz.func71
abbrev D1 := @Tryz.func72
abbrev D0 := @Tryz.call118
abbrev DZ := @Tryz.func73
abbrev DY := @Tryz.func31
abbrev DX := @Tryz.func78
abbrev DW := @Tryz.func22
abbrev DV := @Tryz.call21
end Go.Sg
