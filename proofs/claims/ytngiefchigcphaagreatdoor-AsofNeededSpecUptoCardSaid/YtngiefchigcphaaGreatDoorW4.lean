import Derived.KernelRfl
import Derived.Test.YtngiefchigcphaaGreatDoorW3
/- A part of the proof of AsofNeededSpec. -/
set_option linter.unusedVariables false
set_option linter.unusedSimpArgs false
set_option maxRecDepth 100000
namespace Go.Sg
theorem nz (r:Register):eH r=0↔cn r.Appoints=0∧di r.Deputies=0∧bJ r.Interests=0∧dk r.Budgets=0∧bh r.Versions=0∧bI r.Docs=0∧cq r.Approvals=0:=by
 have e:eH r=(bif cn r.Appoints != 0 then 300 else bif di r.Deputies != 0 then 300 else bif bJ r.Interests != 0 then 300 else bif dk r.Budgets != 0 then 300 else bif bh r.Versions != 0 then 300 else bif bI r.Docs != 0 then 300 else bif cq r.Approvals != 0 then 300 else 0):=rfl
 rw [e]
 have key:∀ (a x:Int),(bif a != 0 then 300 else x)=0↔a=0∧x=0:=by
  intro a x
  by_cases h:a=0
  ·simp [h]
  ·have:(a != 0)=true:=by simpa using h
   rw [this];simp [h]
 simp only [key,and_true]
theorem F9 (limit:Int) (k:Int→Bool):∀ (l:List Int) (g:Int),cY.L1 limit k l g=true↔((∀ x∈l,g < x∧x < limit)∧l.Pairwise (· < ·))∧∃ g',(l=[]∧g'=g∨l.getLast? = some g')∧k g'=true
 | [],g=>by simp [cY.L1]
 | y::l,g=>by
  simp only [cY.L1,Bool.cond_eq_ite,Bool.or_eq_true,decide_eq_true_eq]
  split
  ·next h=>
   constructor
   ·intro h';cases h'
   ·rintro ⟨⟨h1,_⟩,_⟩;have:=h1 y (List.mem_cons_self ..);omega
  ·next h=>
   rw [F9 limit k l y,List.pairwise_cons]
   simp only [List.mem_cons,forall_eq_or_imp]
   constructor
   ·rintro ⟨⟨h1,h2⟩,g',h3,h4⟩
    refine ⟨⟨⟨by omega,fun x hx=>by have:=h1 x hx;omega⟩,fun x hx=>(h1 x hx).1,h2⟩,g',?_,h4⟩
    rcases h3 with ⟨rfl,rfl⟩ | h3
    ·simp
    ·right;cases l with
     | nil=>simp at h3
     | cons z l=>simpa using h3
   ·rintro ⟨⟨⟨h1,h2⟩,h3,h4⟩,g',h5,h6⟩
    refine ⟨⟨fun x hx=>⟨h3 x hx,(h2 x hx).2⟩,h4⟩,g',?_,h6⟩
    rcases h5 with ⟨h5,_⟩ | h5
    ·cases h5
    ·cases l with
     | nil=>left;simp at h5;exact ⟨rfl,h5.symm⟩
     | cons z l=>right;simpa using h5
theorem yC (l:List Int) (limit:Int):cY l limit=true↔((∀ x∈l,0≤x∧x < limit)∧l.Pairwise (· < ·))∧l.length≤16:=by
 unfold cY
 rw [F9]
 constructor
 ·rintro ⟨⟨h1,h2⟩,g',_,h3⟩
  refine ⟨⟨fun x hx=>by have:=h1 x hx;omega,h2⟩,?_⟩
  simp only [cY.K1,decide_eq_true_eq] at h3
  omega
 ·rintro ⟨⟨h1,h2⟩,h3⟩
  refine ⟨⟨fun x hx=>by have:=h1 x hx;omega,h2⟩,?_⟩
  cases l with
  | nil=>exact ⟨_,.inl ⟨rfl,rfl⟩,by simp [cY.K1]⟩
  | cons y l=>
   refine ⟨(y::l).getLast (by simp),.inr (List.getLast?_eq_some_getLast _),?_⟩
   simp only [cY.K1,decide_eq_true_eq]
   omega
structure wn (d:Document):Prop where
 no:0≤d.No∧d.No < 4096
 at_:0≤d.At∧d.At < 1099511627776
 kind:0≤d.Kind∧d.Kind < 16
 value:0≤d.Value∧d.Value≤1099511627776
 eo:0≤d.From∧d.From < d.Until
 Ll:d.Until≤1099511627776
 parties:((∀ x∈d.Parties,0≤x∧x < 1048577)∧d.Parties.Pairwise (· < ·))∧d.Parties.length≤16
 revokes:((∀ x∈d.Revokes,0≤x∧x < d.No)∧d.Revokes.Pairwise (· < ·))∧d.Revokes.length≤16
 needs:((∀ x∈d.Needs,0≤x∧x < d.No)∧d.Needs.Pairwise (· < ·))∧d.Needs.length≤16
theorem DO (d:Document):fE d=true↔wn d:=by
 unfold fE jd
 simp only [Bool.and_eq_true,decide_eq_true_eq,yC]
 constructor
 ·rintro ⟨⟨⟨⟨⟨⟨⟨⟨⟨⟨⟨⟨a,b⟩,c,d⟩,e⟩,f⟩,g⟩,h⟩,i⟩,j⟩,k⟩,l⟩,m⟩,n⟩
  exact ⟨⟨a,b⟩,⟨c,d⟩,⟨e,f⟩,⟨g,h⟩,⟨i,j⟩,k,l,m,n⟩
 ·rintro ⟨⟨a,b⟩,⟨c,d⟩,⟨e,f⟩,⟨g,h⟩,⟨i,j⟩,k,l,m,n⟩
  exact ⟨⟨⟨⟨⟨⟨⟨⟨⟨⟨⟨⟨a,b⟩,c,d⟩,e⟩,f⟩,g⟩,h⟩,i⟩,j⟩,k⟩,l⟩,m⟩,n⟩
theorem Az (l0:List Document):∀ (l:List Document) (i:Nat),bI.L1 l0 0 l i=0→∀ d∈l,fE d=true
 | [],_,_,_,hd=>(List.not_mem_nil hd).elim
 | y::l,i,h,d,hd=>by
  simp only [bI.L1,Bool.cond_eq_ite] at h
  split at h
  ·omega
  ·next hc=>
   simp only [Bool.or_eq_true,not_or,Bool.not_eq_true',Bool.not_eq_false] at hc
   rcases List.mem_cons.1 hd with rfl | hd
   ·exact hc.1.1
   ·exact Az l0 l (i+1) h d hd
theorem wX {l:List Document} (h:bI l=0):∀ d∈l,wn d:=by
 unfold bI bI.K1 at h
 rw [Bool.cond_eq_ite] at h
 split at h
 ·omega
 ·exact fun d hd=>(DO d).1 (Az l l 0 h d hd)
theorem Et (f:Document→Bool):∀ (l:List Document) (i:Nat),(ab.L1 f ab.K1 l i=-1∧∀ x∈l,f x=false) ∨
  ∃ a y b,l=a++y::b∧ab.L1 f ab.K1 l i=((i+a.length:Nat):Int)∧f y=true∧∀ x∈a,f x=false
 | [],i=>.inl ⟨rfl,fun _ h=>(List.not_mem_nil h).elim⟩
 | y::l,i=>by
  simp only [ab.L1]
  cases hy:f y with
  | true=>exact .inr ⟨[],y,l,rfl,by simp,hy,fun _ h=>(List.not_mem_nil h).elim⟩
  | false=>
   rcases Et f l (i+1) with ⟨h1,h2⟩ | ⟨a,z,b,rfl,h2,h3,h4⟩
   ·exact .inl ⟨h1,fun x hx=>by rcases List.mem_cons.1 hx with rfl | hx;exact hy;exact h2 x hx⟩
   ·refine .inr ⟨y::a,z,b,rfl,?_,h3,fun x hx=>by rcases List.mem_cons.1 hx with rfl | hx;exact hy;exact h4 x hx⟩
    rw [cond_false,h2];simp only [List.length_cons];congr 1;omega
theorem KO {r:Register} {doc known:Int} (h:(cG r doc known).2=true):(cG r doc known).1.Register=r∧(cG r doc known).1.doc∈r.Docs∧(cG r doc known).1.doc.No=doc∧(cG r doc known).1.known=known∧jp known=true:=by
 unfold cG at h ⊢
 rw [Bool.cond_eq_ite] at h ⊢
 rcases Et (fun ed=>bQ ed doc) r.Docs 0 with ⟨h1,_⟩ | ⟨a,y,b,h1,h2,h3,_⟩
 ·have:ab r.Docs (fun ed=>bQ ed doc)=-1:=h1
  rw [this] at h
  simp at h
 ·have e:ab r.Docs (fun ed=>bQ ed doc)=(a.length:Int):=by rw [Nat.zero_add] at h2;exact h2
  have hn:nthI r.Docs (a.length:Int)=y:=iE (by rw [h1];simp)
  rw [e] at h ⊢
  cases ht:jp known with
  | false=>rw [ht] at h;simp at h
  | true=>
   rw [hn]
   have hc:(decide ((a.length:Int) < 0)||!true)=false:=by simp
   rw [hc]
   rw [if_neg (by simp)]
   refine ⟨by cases r;rfl,?_,?_,rfl,rfl⟩
   ·have:y∈r.Docs:=by rw [h1];simp
    cases y;exact this
   ·have h4:y.No=doc:=by simpa [bQ] using h3
    exact h4
structure Lg (r:Register) (q:aC):Prop where
 reg:q.Register=r
 vers:o9 r.Versions
 doc:wn q.doc
theorem asked {r:Register} {doc known:Int} (hc:eH r=0) (h:(cG r doc known).2=true):Lg r (cG r doc known).1:=by
 obtain ⟨_,_,_,_,h5,h6,_⟩:=(nz r).1 hc
 obtain ⟨h1,h2,_⟩:=KO h
 exact ⟨h1,(je _).1 h5,wX h6 _ h2⟩
theorem xz (l0:List Int):∀ (l:List Int) (i:Nat),(aQ.L1 l0 [] l i).length≤l.length
 | [],_=>Nat.le_refl _
 | y::l,i=>by
  have ih:=xz l0 l (i+1)
  simp only [aQ.L1,Bool.cond_eq_ite,List.length_cons]
  split <;> split <;> first | omega | (simp only [List.length_cons];omega)
def changeR (q:aC) (l:List Rule) (m:List (Int×Bool)):List (Int×Bool):=l.foldl (fun m x=>mput m (q.doc.At+x.Think) true) m
def changeV (q:aC) (l:List Version) (m:List (Int×Bool)):List (Int×Bool):=l.foldl (fun m v=>changeR q v.Policy.Rules (mput m v.At true)) m
def changeM (q:aC):List (Int×Bool):=
 changeV q q.Register.Versions (q.Register.Interests.foldl (fun m x=>mput m x.At true) (q.Register.Appoints.foldl (fun m x=>mput m x.At true) (mput (mput (mput [] 0 true) q.doc.At true) q.doc.Until true)))
theorem BI (q:aC) (k:List (Int×Bool)→List Span):∀ l m,aD.L5 q k l m=k (changeR q l m)
 | [],m=>rfl
 | y::l,m=>by simp only [aD.L5,BI q k l];rfl
theorem BJ (q:aC) (k:List (Int×Bool)→List Span):∀ l m,aD.L3 q k l m=k (changeV q l m)
 | [],m=>rfl
 | y::l,m=>by simp only [aD.L3,BI,BJ q k l];rfl
theorem BK (k:List (Int×Bool)→List Span):∀ l m,aD.L2 k l m=k (l.foldl (fun m x=>mput m x.At true) m)
 | [],m=>rfl
 | y::l,m=>by simp only [aD.L2,BK k l];rfl
theorem BL (k:List (Int×Bool)→List Span):∀ l m,aD.L1 k l m=k (l.foldl (fun m x=>mput m x.At true) m)
 | [],m=>rfl
 | y::l,m=>by simp only [aD.L1,BL k l];rfl
theorem GV (q:aC):aD q=aQ (sortI ((changeM q).map Prod.fst)):=by
 unfold aD
 rw [BL]
 unfold aD.K1
 rw [BK]
 unfold aD.K2
 rw [BJ]
 rfl
theorem vV {α : Type} (f:α→Int):∀ (l:List α) (m:List (Int×Bool)),(l.foldl (fun m x=>mput m (f x) true) m).length≤m.length+l.length
 | [],m=>Nat.le_refl _
 | y::l,m=>by
  have:=vV f l (mput m (f y) true)
  have:=gq m (f y) true
  simp only [List.foldl_cons,List.length_cons]
  omega
theorem xV (q:aC):∀ (l:List Version) (m:List (Int×Bool)),(∀ v∈l,v.Policy.Rules.length≤16)→(changeV q l m).length≤m.length+17 * l.length
 | [],m,_=>Nat.le_refl _
 | y::l,m,h=>by
  have a:=xV q l (changeR q y.Policy.Rules (mput m y.At true)) (fun v hv=>h v (List.mem_cons_of_mem _ hv))
  have b:=vV (fun x:Rule=>q.doc.At+x.Think) y.Policy.Rules (mput m y.At true)
  have c:=gq m y.At true
  have d:=h y (List.mem_cons_self ..)
  simp only [changeV,List.foldl_cons,List.length_cons] at a ⊢
  simp only [changeR] at a ⊢
  omega
theorem GW {q:aC} (hsm:smR q.Register) (hov:okV q.Register.Versions):(aD q).length≤5000000:=by
 rw [GV]
 have h1:=xz (sortI ((changeM q).map Prod.fst)) (sortI ((changeM q).map Prod.fst)) 0
 rw [hU,List.length_map] at h1
 unfold aQ aQ.K1
 have h2:=xV q q.Register.Versions (q.Register.Interests.foldl (fun m x=>mput m x.At true) (q.Register.Appoints.foldl (fun m x=>mput m x.At true) (mput (mput (mput [] 0 true) q.doc.At true) q.doc.Until true))) (fun v hv=>(hov.2 v hv).1.1)
 have h3:=vV (fun x:Interest=>x.At) q.Register.Interests (q.Register.Appoints.foldl (fun m x=>mput m x.At true) (mput (mput (mput [] 0 true) q.doc.At true) q.doc.Until true))
 have h4:=vV (fun x:Appoint=>x.At) q.Register.Appoints (mput (mput (mput [] 0 true) q.doc.At true) q.doc.Until true)
 have h5:=gq (mput (mput ([]:List (Int×Bool)) 0 true) q.doc.At true) q.doc.Until true
 have h6:=gq (mput ([]:List (Int×Bool)) 0 true) q.doc.At true
 have h7:=gq ([]:List (Int×Bool)) 0 true
 have h8:=hsm.2.1
 have h9:=hsm.2.2.2.1
 have h10:=hov.1
 simp only [List.length_nil] at h7
 change (changeM q).length≤_ at h2
 omega
theorem Fm (mode:Int) (l:List Version) (old:Bool):(judgesP mode l old).length≤l.length:=by
 unfold judgesP fG fj fF
 cases mode==1 <;> cases mode==2 <;> cases old <;> simp <;> omega
theorem tI (k:List Int→List Int×Int×Int):∀ (l:List Version) (g:List Int),ay.L2 k l g=k (g++l.map (·.No))
 | [],g=>by simp [ay.L2]
 | y::l,g=>by simp [ay.L2,tI k l]
theorem Cp (begun at_:Int) (P:List Int×Int×Int→Prop) (n:Nat) (k:Bool→List Version→List Int×Int×Int) (hk:∀ b g,g.length≤n→P (k b g)):∀ (l:List (Int×Version)) b g,g.length+l.length≤n→P (ay.L1 begun at_ k l b g)
 | [],b,g,h=>by simpa [ay.L1] using hk b g (by simpa using h)
 | y::l,b,g,h=>by
  simp only [ay.L1]
  simp only [List.length_cons] at h
  cases decide (at_ < y.1)
  ·exact Cp begun at_ P n k hk l _ _ (by simp;omega)
  ·exact hk _ _ (by omega)
theorem Fy (l:List Version) (begun at_ known:Int):(ay l begun at_ known).1.length≤l.length:=by
 unfold ay
 cases (bh l != 0)
 ·cases (((!(eZ begun))||(!(eZ at_)))||(!(eZ known)))||decide (at_ < begun)
  ·simp only [cond_false]
   refine Cp begun at_ (fun r=>r.1.length≤l.length) l.length _ ?_ _ _ _ (by have:=xE l begun known;simpa using this)
   intro b g hg
   unfold ay.K1
   cases ((g.length:Int)==0)
   ·simp only [cond_false,tI,ay.K2,List.nil_append,hU,List.length_map]
    exact Nat.le_trans (Fm _ _ _) hg
   ·simp
  ·simp
 ·simp
theorem ll (no:Int):∀ (l:List Version) (k:Version),aV.L1 no k l=k∨aV.L1 no k l∈l
 | [],k=>.inl rfl
 | y::l,k=>by
  simp only [aV.L1]
  cases y.No==no
  ·rcases ll no l k with h | h
   ·exact .inl h
   ·exact .inr (List.mem_cons_of_mem _ h)
  ·exact .inr (List.mem_cons_self ..)
theorem AM {r:Register} (h:smR r) (no:Int):smP (aV r no).Policy:=by
 unfold aV
 rcases ll no r.Versions aV.K1 with e | e
 ·rw [e];unfold aV.K1 smP
  refine ⟨by simp,by simp,?_,by simp,by simp⟩
  simp [Expr.dep,Expr.depL]
 ·exact h.vers.2 _ e
theorem GN:oE=true:=by kernel_rfl
theorem GM:smR bD:=by simp [smR,smV,smP,bD,Expr.dep,Expr.depL]
theorem Jr:smR (Register.mk [] [] [] [] [] [] []):=by simp [smR,smV]
theorem Jq:smR (Register.mk [(Appoint.mk 0 0 0 0 0 0 false)] [] [] [] [] [] []):=by simp [smR,smV]
theorem Js (a b:Interest):smR (Register.mk bD.Appoints bD.Deputies [a,b] bD.Budgets bD.Versions bD.Docs bD.Approvals):=by simp [smR,smV,smP,bD,Expr.dep,Expr.depL]
theorem HY:smR (Register.mk bD.Appoints bD.Deputies bD.Interests bD.Budgets [] bD.Docs bD.Approvals):=by simp [smR,smV,smP,bD,Expr.dep,Expr.depL]
theorem mm {p:Prop} (h:p:=by first | exact GM | exact Jr | exact Jq | exact Js _ _ | exact HY):p:=h
theorem uA {P:Program} {f:FuncId} {args:List Value} {h:HF} {v v':Value} (t:Ret P f args h v) (e:v=v'):Ret P f args h v':=e ▸ t
structure Lp (r:Register) (doc:Int) (who l:List Int):Prop where
 times:∀ x∈l,0≤x∧x < 1099511627776
 check:gJ r=0
 doc0:0≤bq r doc
 people:eD who=true
theorem F6 (no:Int):∀ (l:List Document) (i:Nat),0≤bq.L1 no bq.K1 l i→∃ (j:Nat) (d:Document),l[j]? = some d∧d.No=no∧bq.L1 no bq.K1 l i=((i+j:Nat):Int)
 | [],i,h=>by simp [bq.L1,bq.K1] at h
 | y::l,i,h=>by
  simp only [bq.L1,Bool.cond_eq_ite,beq_iff_eq] at h ⊢
  split
  ·next e=>exact ⟨0,y,rfl,e,rfl⟩
  ·next e=>
   rw [if_neg e] at h
   obtain ⟨j,d,h1,h2,h3⟩:=F6 no l (i+1) h
   exact ⟨j+1,d,by simpa using h1,h2,by rw [h3];congr 1;omega⟩
theorem vC {r:Register} {no:Int} (h:0≤bq r no):bq r no < (r.Docs.length:Int)∧nthI r.Docs (bq r no)∈r.Docs∧(nthI r.Docs (bq r no)).No=no:=by
 obtain ⟨j,d,h1,h2,h3⟩:=F6 no r.Docs 0 h
 rw [Nat.zero_add] at h3
 have hl:=(List.getElem?_eq_some_iff.1 h1).1
 have e:bq r no=(j:Int):=h3
 have hb:0≤bq r no∧bq r no < (r.Docs.length:Int):=by omega
 have hg:=bT hb
 rw [show (bq r no).toNat=j from by omega,h1] at hg
 have hd:=Option.some.inj hg
 exact ⟨hb.2,fw hb,by rw [← hd];exact h2⟩
theorem xS {r:Register} (h:gJ r=0):ff r.Appoints=0∧fQ r.Deputies=0∧e9 r.Interests=0∧fP r.Budgets=0∧cy r.Versions=0∧eU r.Docs=0∧fO r.Approvals=0:=by
 simp only [gJ,Bool.cond_eq_ite,Bool.or_eq_true,bne_iff_ne] at h
 split at h
 ·simp at h
 ·next h1=>
  split at h
  ·simp at h
  ·next h2=>
   simp only [not_or,Classical.not_not] at h1 h2
   exact ⟨h1.1.1.1,h1.1.1.2,h1.1.2,h1.2,h2.1.1,h2.1.2,h2.2⟩
def okS:List Span→Int→Prop
 | [],_=>True
 | x::l,c=>c < x.From∧x.From < x.Until∧x.Until≤1099511627776∧okS l x.Until
def lastU:List Span→Int→Int
 | [],c=>c
 | x::l,_=>lastU l x.Until
theorem vG:∀ (a:List Span) (x:Span) (c:Int),okS (a++[x]) c↔okS a c∧lastU a c < x.From∧x.From < x.Until∧x.Until≤1099511627776
 | [],x,c=>by simp [okS,lastU]
 | y::a,x,c=>by
  simp only [List.cons_append,okS,lastU,vG a x y.Until]
  constructor
  ·rintro ⟨a,b,c,d,e⟩;exact ⟨⟨a,b,c,d⟩,e⟩
  ·rintro ⟨⟨a,b,c,d⟩,e⟩;exact ⟨a,b,c,d,e⟩
theorem oF:∀ (a:List Span) (x:Span) (c:Int),lastU (a++[x]) c=x.Until
 | [],x,c=>rfl
 | y::a,x,c=>oF a x y.Until
def inS (s:List Span) (t:Int):Bool:=s.any fun x=>decide (x.From≤t)&&decide (t < x.Until)
theorem zT (a:List Span) (x:Span) (t:Int):inS (a++[x]) t=(inS a t||(decide (x.From≤t)&&decide (t < x.Until))):=by simp [inS]
theorem Fi:∀ (a:List Span) (c t:Int),okS a c→lastU a c≤t→c≤lastU a c∧inS a t=false
 | [],c,t,_,_=>⟨Int.le_refl _,rfl⟩
 | x::a,c,t,⟨h1,h2,h3,h4⟩,ht=>by
  obtain ⟨k1,k2⟩:=Fi a x.Until t h4 ht
  refine ⟨by simp only [lastU];omega,?_⟩
  simp only [lastU] at ht
  have:decide (t < x.Until)=false:=by simp;omega
  simp only [inS,List.any_cons,this,Bool.and_false,Bool.false_or] at k2 ⊢
  exact k2
structure KR (f:Int→Bool) (acc:List Span) (c:Int):Prop where
 ok:okS acc (-1)
 le:lastU acc (-1)≤c
 pos:0≤c
 is:∀ t,0≤t→t < c→inS acc t=f t
def stepT (f:Int→Bool) (acc:List Span) (s:Span):List Span:=
 bif !(f s.From) then acc else bif decide (0 < (acc.length:Int))&&((nthI acc ((acc.length:Int) - 1)).Until==s.From) then acc.set (((acc.length:Int) - 1):Int).toNat (Span.mk (nthI acc ((acc.length:Int) - 1)).From s.Until) else acc++[s]
theorem KR.step {f:Int→Bool} {acc:List Span} {c u:Int} (g:KR f acc c) (hu:c < u) (hE:u≤1099511627776) (hf:∀ t,c≤t→t < u→f t=f c):KR f (stepT f acc ⟨c,u⟩) u:=by
 have g3:=g.pos
 have hlow:∀ t,c≤t→inS acc t=false:=fun t ht=>(Fi acc (-1) t g.ok (Int.le_trans g.le ht)).2
 unfold stepT
 cases hfc:f c with
 | false=>
  refine ⟨g.ok,(by show lastU acc (-1)≤u;have:=g.le;omega),by omega,fun t h0 ht=>?_⟩
  by_cases h:t < c
  ·exact g.is t h0 h
  ·rw [hf t (by omega) ht,hfc];exact hlow t (by omega)
 | true=>
  simp only [Bool.not_true,cond_false]
  rcases List.eq_nil_or_concat acc with rfl | ⟨a,x,e⟩
  ·refine ⟨⟨by show (-1:Int) < c;omega,hu,hE,trivial⟩,Int.le_refl _,by omega,fun t h0 ht=>?_⟩
   have hn:=g.is
   by_cases h:t < c
   ·rw [← g.is t h0 h]
    have:decide (c≤t)=false:=by simp;omega
    show (decide (c≤t)&&decide (t < u)||false)=_
    rw [this];rfl
   ·rw [hf t (by omega) ht,hfc]
    have h1:decide (c≤t)=true:=by simp;omega
    have h2:decide (t < u)=true:=by simpa using ht
    show (decide (c≤t)&&decide (t < u)||false)=_
    rw [h1,h2];rfl
  ·rw [List.concat_eq_append] at e
   subst e
   have hlen:((a++[x]).length:Int) - 1=(a.length:Int):=by simp
   have hx:nthI (a++[x]) (a.length:Int)=x:=by
    have hb:0≤(a.length:Int)∧(a.length:Int) < ((a++[x]).length:Int):=by simp;omega
    have hg:=bT hb
    rw [show (a.length:Int).toNat=a.length from by omega] at hg
    simpa using hg.symm
   have hset:(a++[x]).set a.length (Span.mk x.From u)=a++[Span.mk x.From u]:=by simp
   have hpos:decide (0 < ((a++[x]).length:Int))=true:=by rw [decide_eq_true_eq];rw [List.length_append,List.length_cons];omega
   have ok':=(vG a x (-1)).1 g.ok
   have le':=g.le
   rw [oF] at le'
   have inx:∀ t,inS a t=false∨t < x.From:=fun t=>by
    by_cases h:lastU a (-1)≤t
    ·exact .inl (Fi a (-1) t ok'.1 h).2
    ·exact .inr (by omega)
   rw [hlen,hx,hpos,show (a.length:Int).toNat=a.length from by omega,hset,Bool.true_and]
   cases he:x.Until==c with
   | true=>
    have he':x.Until=c:=by simpa using he
    refine ⟨(vG a _ (-1)).2 ⟨ok'.1,ok'.2.1,by show x.From < u;omega,hE⟩,by rw [show cond true _ _=a++[Span.mk x.From u] from rfl,oF];exact Int.le_refl _,by omega,fun t h0 ht=>?_⟩
    show inS (a++[Span.mk x.From u]) t=f t
    rw [zT]
    by_cases h:t < c
    ·rw [← g.is t h0 h,zT]
     have h1:decide (t < u)=true:=by simp;omega
     have h2:decide (t < x.Until)=true:=by simp;omega
     show (inS a t||(decide (x.From≤t)&&decide (t < u)))=_
     rw [h1,h2]
    ·rw [hf t (by omega) ht,hfc]
     have h1:decide (t < u)=true:=by simpa using ht
     have h2:decide (x.From≤t)=true:=by simp;omega
     show (inS a t||(decide (x.From≤t)&&decide (t < u)))=_
     rw [h1,h2];simp
   | false=>
    have he':x.Until≠c:=by simpa using he
    refine ⟨(vG _ _ (-1)).2 ⟨g.ok,by rw [oF];show x.Until < c;omega,hu,hE⟩,by rw [show cond false _ _=(a++[x])++[Span.mk c u] from rfl,oF];exact Int.le_refl _,by omega,fun t h0 ht=>?_⟩
    show inS ((a++[x])++[Span.mk c u]) t=f t
    rw [zT]
    by_cases h:t < c
    ·rw [← g.is t h0 h]
     have h2:decide (c≤t)=false:=by simp;omega
     show (_||(decide (c≤t)&&decide (t < u)))=_
     rw [h2];simp
    ·rw [hf t (by omega) ht,hfc,hlow t (by omega)]
     have h1:decide (t < u)=true:=by simpa using ht
     have h2:decide (c≤t)=true:=by simp;omega
     show (_||(decide (c≤t)&&decide (t < u)))=_
     rw [h1,h2];rfl
theorem Cj {α : Type} (g:α→Int):∀ (l:List α) (m:List (Int×Bool)) (x:Int),x∈(l.foldl (fun m y=>mput m (g y) true) m).map (·.1)↔x∈m.map (·.1)∨∃ y∈l,x=g y
 | [],m,x=>by simp
 | y::l,m,x=>by
  rw [List.foldl_cons,Cj g l,lJ]
  simp only [List.mem_cons,exists_eq_or_imp]
  constructor
  ·rintro ((h | h) | h)
   ·exact .inr (.inl h)
   ·exact .inl h
   ·exact .inr (.inr h)
  ·rintro (h | h | h)
   ·exact .inl (.inr h)
   ·exact .inl (.inl h)
   ·exact .inr h
theorem uU {α : Type} (g:α→Int):∀ (l:List α) (m:List (Int×Bool)),(m.map (·.1)).Nodup→((l.foldl (fun m y=>mput m (g y) true) m).map (·.1)).Nodup
 | [],m,h=>h
 | y::l,m,h=>uU g l _ (jt _ _ h)
def Change (q:aC) (x:Int):Prop:=
 x=0∨x=q.doc.At∨x=q.doc.Until∨(∃ a∈q.Register.Appoints,x=a.At)∨(∃ a∈q.Register.Interests,x=a.At)∨∃ v∈q.Register.Versions,x=v.At∨∃ y∈v.Policy.Rules,x=q.doc.At+y.Think
theorem pU {l:List Int} (h:l.Pairwise (·≤·)) (hn:l.Nodup):l.Pairwise (· < ·):=by
 induction l with
 | nil=>exact List.Pairwise.nil
 | cons x l ih=>
  rw [List.pairwise_cons] at h ⊢
  rw [List.nodup_cons] at hn
  exact ⟨fun y hy=>by have:=h.1 y hy;have:x≠y:=fun e=>hn.1 (e ▸ hy);omega,ih h.2 hn.2⟩
section chk
variable {α : Type} [Inhabited α]
def refChk (R:α→Bool) (no:α→Int) (c:Int) (L:List α):List α→Nat→Int
 | [],_=>0
 | y::l,i=>bif (!(R y))||(decide (0 < (i:Int))&&decide (no y≤no (nthI L ((i:Int) - 1)))) then c else refChk R no c L l (i+1)
def prgChk (R:α→Bool) (no:α→Int) (c:Int):List α→Int→Int
 | [],_=>0
 | y::l,g=>bif (!(R y))||decide (no y≤g) then c else prgChk R no c l (no y)
theorem ER (R:α→Bool) (no:α→Int) (c:Int) (L:List α):∀ (l pre:List α) (x:α),L=(pre++[x])++l→refChk R no c L l (pre.length+1)=prgChk R no c l (no x)
 | [],_,_,_=>rfl
 | y::l,pre,x,h=>by
  have hx:nthI L (((pre.length+1:Nat):Int) - 1)=x:=by
   have hb:0≤(((pre.length+1:Nat):Int) - 1)∧(((pre.length+1:Nat):Int) - 1) < (L.length:Int):=by rw [h];simp;omega
   have hg:=bT hb
   rw [show ((((pre.length+1:Nat):Int) - 1)).toNat=pre.length from by omega,h] at hg
   rw [h];simpa using hg.symm
  have hd:decide (0 < ((pre.length+1:Nat):Int))=true:=by rw [decide_eq_true_eq];omega
  have ih:=ER R no c L l (pre++[x]) y (by rw [h];simp)
  rw [List.length_append,List.length_cons,List.length_nil,Nat.zero_add] at ih
  simp only [refChk,prgChk,hx,hd,Bool.true_and,ih]
theorem AC (R:α→Bool) (no:α→Int) (c:Int) (hR:∀ y,R y=true→0≤no y) (l:List α):refChk R no c l l 0=prgChk R no c l (-1):=by
 cases l with
 | nil=>rfl
 | cons y l=>
  have ih:=ER R no c (y::l) l [] y rfl
  simp only [List.length_nil,Nat.zero_add] at ih
  simp only [refChk,prgChk,Nat.zero_add,ih]
  cases hr:R y with
  | false=>rfl
  | true=>
   have:decide (no y≤-1)=false:=by have:=hR y hr;simp;omega
   rw [this];rfl
end chk
theorem sv (l:List Appoint):cn l=ff l:=by
 have hR:∀ x,i8 x=ik x:=fun x=>by
  rw [Bool.eq_iff_iff]
  simp only [i8,ik,Bool.cond_eq_ite]
  cases x.Gone <;> simp only [if_true,if_false,Bool.false_eq_true,Bool.and_eq_true,Bool.or_eq_true,Bool.not_eq_true',decide_eq_true_eq,decide_eq_false_iff_not,beq_iff_eq,dv,db,eN,fD,iz,jz,lH,Bool.and_eq_false_iff]
   <;> (split <;> simp only [Bool.false_eq_true,iff_false,decide_eq_true_eq,Bool.and_eq_true,beq_iff_eq] <;> omega)
 have h1:∀ (L l:List Appoint) i,ff.L1 L ff.K1 l i=refChk ik (·.No) 150 L l i:=by
  intro L l
  induction l with
  | nil=>intro i;rfl
  | cons y l ih=>intro i;simp only [ff.L1,refChk,ih]
 have h2:∀ (l:List Appoint) g,cn.L1 cn.K1 l g=prgChk ik (·.No) 150 l g:=by
  intro l
  induction l with
  | nil=>intro g;rfl
  | cons y l ih=>intro g;simp only [cn.L1,prgChk,ih,hR]
 unfold cn ff
 rw [h1,h2,AC]
 intro y hy
 simp only [ik,Bool.cond_eq_ite] at hy
 split at hy
 ·cases hy
 ·next h=>simp only [Bool.or_eq_true,not_or,decide_eq_true_eq] at h;omega
theorem vZ (l:List Deputy):di l=fQ l:=by
 have hR:∀ x,kw x=ij x:=fun x=>by
  rw [Bool.eq_iff_iff]
  simp only [kw,ij,Bool.cond_eq_ite,eQ,iN,gV,fT,lr,jU]
  generalize (!(decide (0≤x.No)&&decide (x.No≤1048576))||!(decide (0≤x.At)&&decide (x.At≤1099511627775))||!(decide (0≤x.Known)&&decide (x.Known≤1099511627775))||!(decide (0≤x.From)&&decide (x.From≤63))||!(decide (0≤x.To)&&decide (x.To≤63))||x.From==x.To)=A
  cases A <;> simp
 have h1:∀ (L l:List Deputy) i,fQ.L1 L fQ.K1 l i=refChk ij (·.No) 160 L l i:=by
  intro L l
  induction l with
  | nil=>intro i;rfl
  | cons y l ih=>intro i;simp only [fQ.L1,refChk,ih]
 have h2:∀ (l:List Deputy) g,di.L1 di.K1 l g=prgChk ij (·.No) 160 l g:=by
  intro l
  induction l with
  | nil=>intro g;rfl
  | cons y l ih=>intro g;simp only [di.L1,prgChk,ih,hR]
 unfold di fQ
 rw [h1,h2,AC]
 intro y hy
 simp only [ij,Bool.cond_eq_ite] at hy
 split at hy
 ·cases hy
 ·next h=>simp only [Bool.or_eq_true,not_or,decide_eq_true_eq,fT,Bool.not_eq_true',Bool.and_eq_false_iff,decide_eq_false_iff_not] at h;omega
theorem nm (l:List Interest):bJ l=e9 l:=by
 have hR:∀ x,ju x=ib x:=fun x=>by
  rw [Bool.eq_iff_iff]
  simp only [ju,ib,Bool.cond_eq_ite,aS,iw,gz,jR]
  cases x.Of <;> simp only [if_true,if_false,Bool.false_eq_true,Bool.and_eq_true,Bool.or_eq_true,Bool.not_eq_true',decide_eq_true_eq,decide_eq_false_iff_not,bne_iff_ne,Bool.and_eq_false_iff]
   <;> (split <;> simp only [Bool.false_eq_true,iff_false,decide_eq_true_eq,Bool.and_eq_true,bne_iff_ne] <;> omega)
 have h1:∀ (L l:List Interest) i,e9.L1 L e9.K1 l i=refChk ib (·.No) 290 L l i:=by
  intro L l
  induction l with
  | nil=>intro i;rfl
  | cons y l ih=>intro i;simp only [e9.L1,refChk,ih]
 have h2:∀ (l:List Interest) g,bJ.L1 bJ.K1 l g=prgChk ib (·.No) 290 l g:=by
  intro l
  induction l with
  | nil=>intro g;rfl
  | cons y l ih=>intro g;simp only [bJ.L1,prgChk,ih,hR]
 unfold bJ e9
 rw [h1,h2,AC]
 intro y hy
 simp only [ib,Bool.cond_eq_ite] at hy
 split at hy
 ·cases hy
 ·next h=>simp only [Bool.or_eq_true,not_or,decide_eq_true_eq] at h;omega
theorem xG (f:Int→Bool):∀ (l:List Int) (i:Nat),decide (0≤bV.L1 f bV.K1 l i)=l.any f
 | [],i=>by simp [bV.L1,bV.K1]
 | y::l,i=>by
  have ih:=xG f l (i+1)
  simp only [bV.L1,List.any_cons]
  by_cases hf:f y=true
  ·simp [hf]
  ·simp only [Bool.not_eq_true] at hf
   simp only [hf,cond_false,Bool.false_or]
   exact ih
theorem containsF (l:List Int) (f:Int→Bool):cV l f=l.any f:=xG f l 0
theorem xX (l:List Budget):dk l=fP l:=by
 have hR:∀ x,kU x=ii x:=fun x=>by
  rw [Bool.eq_iff_iff]
  simp only [kU,ii,Bool.cond_eq_ite,bK,containsF,iF,List.any_cons,List.any_nil,Bool.or_false,gr,jT]
  cases x.Gone <;> simp only [if_true,if_false,Bool.false_eq_true,Bool.and_eq_true,Bool.or_eq_true,Bool.not_eq_true',decide_eq_true_eq,decide_eq_false_iff_not,beq_iff_eq,Bool.and_eq_false_iff,Bool.or_eq_false_iff]
   <;> (split <;> simp only [Bool.false_eq_true,iff_false,decide_eq_true_eq,Bool.and_eq_true,beq_iff_eq] <;> omega)
 have h1:∀ (L l:List Budget) i,fP.L1 L fP.K1 l i=refChk ii (·.No) 180 L l i:=by
  intro L l
  induction l with
  | nil=>intro i;rfl
  | cons y l ih=>intro i;simp only [fP.L1,refChk,ih]
 have h2:∀ (l:List Budget) g,dk.L1 dk.K1 l g=prgChk ii (·.No) 180 l g:=by
  intro l
  induction l with
  | nil=>intro g;rfl
  | cons y l ih=>intro g;simp only [dk.L1,prgChk,ih,hR]
 unfold dk fP
 rw [h1,h2,AC]
 intro y hy
 simp only [ii,Bool.cond_eq_ite] at hy
 split at hy
 ·cases hy
 ·next h=>simp only [Bool.or_eq_true,not_or,decide_eq_true_eq,gr,Bool.not_eq_true',Bool.and_eq_false_iff,decide_eq_false_iff_not] at h;omega
theorem ur (l:List Approval):cq l=fO l:=by
 have hR:∀ x,jP x=ic x:=fun x=>by
  rw [Bool.eq_iff_iff]
  simp only [jP,ic,Bool.cond_eq_ite,dQ,containsF,hY,List.any_cons,List.any_nil,Bool.or_false,ft,lm,oe]
  simp only [Bool.and_eq_true,Bool.or_eq_true,Bool.not_eq_true',decide_eq_true_eq,decide_eq_false_iff_not,Bool.and_eq_false_iff,Bool.or_eq_false_iff]
  split <;> simp only [Bool.false_eq_true,iff_false,decide_eq_true_eq,Bool.and_eq_true] <;> omega
 have h1:∀ (L l:List Approval) i,fO.L1 L fO.K1 l i=refChk ic (·.No) 280 L l i:=by
  intro L l
  induction l with
  | nil=>intro i;rfl
  | cons y l ih=>intro i;simp only [fO.L1,refChk,ih]
 have h2:∀ (l:List Approval) g,cq.L1 cq.K1 l g=prgChk ic (·.No) 280 l g:=by
  intro l
  induction l with
  | nil=>intro g;rfl
  | cons y l ih=>intro g;simp only [cq.L1,prgChk,ih,hR]
 unfold cq fO
 rw [h1,h2,AC]
 intro y hy
 simp only [ic,Bool.cond_eq_ite] at hy
 split at hy
 ·cases hy
 ·next h=>simp only [Bool.or_eq_true,not_or,decide_eq_true_eq,ft,Bool.not_eq_true',Bool.and_eq_false_iff,decide_eq_false_iff_not] at h;omega
def refLs (B:Int→Bool) (L:List Int) (k:Bool):List Int→Nat→Bool
 | [],_=>k
 | y::l,i=>bif (B y)||(decide (0 < (i:Int))&&decide (y≤nthI L ((i:Int) - 1))) then false else refLs B L k l (i+1)
theorem zh (B:Int→Bool) (L:List Int) (k:Bool):∀ (l pre:List Int) (x:Int),L=(pre++[x])++l→refLs B L k l (pre.length+1)=true→((∀ y∈l,B y=false)∧k=true)∧(x::l).Pairwise (· < ·)
 | [],_,_,_,h=>⟨⟨fun _ h=>(List.not_mem_nil h).elim,h⟩,by simp⟩
 | y::l,pre,x,h,hr=>by
  have hx:nthI L (((pre.length+1:Nat):Int) - 1)=x:=by
   have hb:0≤(((pre.length+1:Nat):Int) - 1)∧(((pre.length+1:Nat):Int) - 1) < (L.length:Int):=by rw [h];simp;omega
   have hg:=bT hb
   rw [show ((((pre.length+1:Nat):Int) - 1)).toNat=pre.length from by omega,h] at hg
   rw [h];simpa using hg.symm
  simp only [refLs,hx,Bool.cond_eq_ite] at hr
  split at hr
  ·cases hr
  ·next hc=>
   simp only [Bool.or_eq_true,Bool.and_eq_true,decide_eq_true_eq,not_or] at hc
   have ih:=zh B L k l (pre++[x]) y (by rw [h];simp)
   rw [List.length_append,List.length_cons,List.length_nil,Nat.zero_add] at ih
   obtain ⟨⟨i1,i2⟩,i3⟩:=ih hr
   have hxy:x < y:=by omega
   refine ⟨⟨fun z hz=>?_,i2⟩,List.pairwise_cons.2 ⟨fun z hz=>?_,i3⟩⟩
   ·rcases List.mem_cons.1 hz with rfl | hz
    ·simpa using hc.1
    ·exact i1 z hz
   ·rcases List.mem_cons.1 hz with rfl | hz
    ·exact hxy
    ·have:=(List.pairwise_cons.1 i3).1 z hz;omega
theorem zg {B:Int→Bool} {k:Bool} {l:List Int} (h:refLs B l k l 0=true):((∀ y∈l,B y=false)∧k=true)∧l.Pairwise (· < ·):=by
 cases l with
 | nil=>exact ⟨⟨fun _ h=>(List.not_mem_nil h).elim,h⟩,List.Pairwise.nil⟩
 | cons y l=>
  simp only [refLs,Bool.cond_eq_ite] at h
  split at h
  ·cases h
  ·next hc=>
   simp only [Bool.or_eq_true,not_or] at hc
   obtain ⟨⟨i1,i2⟩,i3⟩:=zh B (y::l) k l [] y rfl h
   refine ⟨⟨fun z hz=>?_,i2⟩,i3⟩
   rcases List.mem_cons.1 hz with rfl | hz
   ·simpa using hc.1
   ·exact i1 z hz
theorem ze {l:List Int} {limit:Int} (h:dN l limit=true):((∀ x∈l,0≤x∧x < limit)∧l.Pairwise (· < ·))∧l.length≤16:=by
 have e:∀ (L l:List Int) i,dN.L1 L limit (dN.K1 L) l i=refLs (fun y=>decide (y < 0)||decide (limit≤y)) L (dN.K1 L) l i:=by
  intro L l
  induction l with
  | nil=>intro i;rfl
  | cons y l ih=>intro i;simp only [dN.L1,refLs,ih]
 unfold dN at h
 rw [e] at h
 obtain ⟨⟨h1,h2⟩,h3⟩:=zg h
 refine ⟨⟨fun x hx=>?_,h3⟩,?_⟩
 ·have:=h1 x hx;simp only [Bool.or_eq_false_iff,decide_eq_false_iff_not] at this;omega
 ·simp only [dN.K1,decide_eq_true_eq] at h2;omega
theorem Fc {l:List Int} (h:eD l=true):(∀ x∈l,0≤x∧x < 64)∧l.Pairwise (· < ·):=by
 have e:∀ (L l:List Int) i,eD.L1 L eD.K1 l i=refLs (fun y=>decide (y < 0)||decide (64≤y)) L true l i:=by
  intro L l
  induction l with
  | nil=>intro i;rfl
  | cons y l ih=>intro i;simp only [eD.L1,refLs,ih]
 unfold eD at h
 rw [e] at h
 obtain ⟨⟨h1,h2⟩,h3⟩:=zg h
 refine ⟨fun x hx=>?_,h3⟩
 have:=h1 x hx;simp only [Bool.or_eq_false_iff,decide_eq_false_iff_not] at this;omega
theorem DN {d:Document} (h:gL d=true):wn d:=by
 simp only [gL,Bool.cond_eq_ite] at h
 split at h
 ·cases h
 ·next hc=>
  simp only [Bool.or_eq_true,not_or,decide_eq_true_eq,mp,Bool.not_eq_true',Bool.and_eq_false_iff,decide_eq_false_iff_not] at hc
  simp only [Bool.and_eq_true,decide_eq_true_eq] at h
  obtain ⟨⟨⟨⟨⟨h1,h2⟩,h3⟩,h4⟩,h5⟩,h6⟩:=h
  exact ⟨by omega,by omega,by omega,by omega,⟨h1,h2⟩,h3,ze h4,ze h5,ze h6⟩
theorem yS (L:List Document):∀ (l:List Document) (i:Nat) (m:List (Int×Int)),(bi.L1 (bi.K1 L) l i m).docs=L∧∀ x,mhas (bi.L1 (bi.K1 L) l i m).at_ x=(mhas m x||l.any fun d=>d.No==x)
 | [],i,m=>⟨rfl,fun x=>by simp [bi.L1,bi.K1]⟩
 | y::l,i,m=>by
  obtain ⟨h1,h2⟩:=yS L l (i+1) (mput m y.No (i:Int))
  refine ⟨h1,fun x=>?_⟩
  show mhas (bi.L1 (bi.K1 L) l (i+1) (mput m y.No (i:Int))).at_ x=_
  rw [h2 x,List.any_cons]
  have:mhas (mput m y.No (i:Int)) x=(mhas m x||y.No==x):=by
   unfold mhas
   rw [jO]
   by_cases e:x=y.No
   ·subst e;simp
   ·rw [if_neg e]
    have:(y.No==x)=false:=by simp;exact fun h=>e h.symm
    rw [this,Bool.or_false]
  rw [this,Bool.or_assoc]
theorem xL (no:Int):∀ (l:List Document) (i:Nat),0≤fy.L1 no fy.K1 l i→(l.any fun d=>d.No==no)=true
 | [],i,h=>by simp [fy.L1,fy.K1] at h
 | y::l,i,h=>by
  simp only [fy.L1,Bool.cond_eq_ite] at h
  rw [List.any_cons]
  by_cases e:(y.No==no)=true
  ·rw [e];rfl
  ·rw [if_neg e] at h
   rw [xL no l (i+1) h,Bool.or_true]
theorem Bv (L:List Document):∀ nos:List Int,cE.L1 L cE.K1 nos=true→∀ x∈nos,(L.any fun d=>d.No==x)=true
 | [],_=>fun _ h=>(List.not_mem_nil h).elim
 | y::nos,h=>by
  simp only [cE.L1,Bool.cond_eq_ite,decide_eq_true_eq] at h
  split at h
  ·cases h
  ·next hc=>
   intro x hx
   rcases List.mem_cons.1 hx with rfl | hx
   ·exact xL x L 0 (by unfold fy at hc;omega)
   ·exact Bv L nos h x hx
theorem KG {L:List Document} {d:Document} (h1:cE L d.Revokes=true) (h2:cE L d.Needs=true):dO (bi L) d=true:=by
 have hs:=(yS L L 0 []).2
 have key:∀ nos,cE L nos=true→cV nos (fun ed=>dE ed (bi L))=false:=by
  intro nos hn
  rw [containsF,List.any_eq_false]
  intro x hx
  unfold dE
  have:=Bv L nos hn x hx
  have e:mhas (bi L).at_ x=true:=by
   show mhas (bi.L1 (bi.K1 L) L 0 []).at_ x=true
   rw [hs x,this,Bool.or_true]
  rw [e];simp
 unfold dO
 rw [key _ h1,key _ h2];rfl
theorem Bg {l:List Document} (h:eU l=0):bI l=0:=by
 have L:∀ (L l:List Document) (i:Nat),eU.L1 L eU.K1 l i=0→bI.L1 L bI.K1 l i=0:=by
  intro L l
  induction l with
  | nil=>intros;rfl
  | cons y l ih=>
   intro i h
   simp only [eU.L1,Bool.cond_eq_ite] at h
   split at h
   ·omega
   ·next hc=>
    simp only [Bool.or_eq_true,not_or,Bool.not_eq_true',Bool.not_eq_false,Bool.not_eq_true] at hc
    obtain ⟨⟨⟨c1,c2⟩,c3⟩,c4⟩:=hc
    simp only [bI.L1,(DO y).2 (DN c1),c2,KG c3 c4,Bool.not_true,Bool.or_false,cond_false]
    exact ih (i+1) h
 unfold eU at h
 unfold bI
 rw [Bool.cond_eq_ite] at h ⊢
 split at h
 ·omega
 ·next hc=>rw [if_neg hc];exact L l l 0 h
theorem askIdx (no:Int):∀ (l:List Document) (i:Nat),ab.L1 (fun ed=>bQ ed no) ab.K1 l i=bq.L1 no bq.K1 l i
 | [],i=>rfl
 | y::l,i=>by
  have ih:=askIdx no l (i+1)
  simp only [ab.L1,bq.L1]
  rw [ih];rfl
theorem KP {r:Register} {doc known:Int} (h:0≤bq r doc) (hk:0≤known∧known < 1099511627776):cG r doc known=(⟨r,nthI r.Docs (bq r doc),known⟩,true):=by
 have e:ab r.Docs (fun ed=>bQ ed doc)=bq r doc:=askIdx doc r.Docs 0
 unfold cG
 rw [e]
 have h1:decide (bq r doc < 0)=false:=by simp;omega
 have h2:jp known=true:=by simp [jp,hk]
 rw [h1,h2]
 rfl
theorem B3 (x:Int):∀ (l:List Int) (i:Nat),(0≤eh.L1 x eh.K1 l i)↔x∈l
 | [],i=>by simp [eh.L1,eh.K1]
 | y::l,i=>by
  have ih:=B3 x l (i+1)
  simp only [eh.L1,Bool.cond_eq_ite,beq_iff_eq,List.mem_cons]
  by_cases e:x=y
  ·rw [if_pos e];simp [e]
  ·rw [if_neg e,ih];simp [e]
theorem wd (l:List Int) (x:Int):dM l x=true↔x∈l:=by
 unfold dM
 rw [decide_eq_true_eq]
 exact B3 x l 0
theorem El (mode:Int) (l:List Version) (old:Bool):(judgesP mode l old).Sublist l:=by
 unfold judgesP fG fj fF
 cases mode==1 <;> cases mode==2 <;> cases old <;> simp [List.take_sublist,List.drop_sublist]
theorem AI (begun at_:Int) (k:Bool→List Version→List Int×Int×Int):∀ (l:List (Int×Version)) b g,∃ (pre:List (Int×Version)) (b':Bool),pre.Sublist l∧ay.L1 begun at_ k l b g=k b' (g++pre.map (·.2))
 | [],b,g=>⟨[],b,List.Sublist.refl _,by simp [ay.L1]⟩
 | y::l,b,g=>by
  simp only [ay.L1]
  cases decide (at_ < y.1)
  ·obtain ⟨pre,b',h1,h2⟩:=AI begun at_ k l (b||(y.1==begun)) (g++[y.2])
   exact ⟨y::pre,b',h1.cons_cons _,by rw [cond_false,h2];simp⟩
  ·exact ⟨[],b,List.nil_sublist _,by simp⟩
theorem JG {l:List Version} (h:l.Pairwise (fun a b=>a.No < b.No)) {a b:Version} (ha:a∈l) (hb:b∈l) (e:a.No=b.No):a=b:=by
 induction l with
 | nil=>cases ha
 | cons x l ih=>
  obtain ⟨h1,h2⟩:=List.pairwise_cons.1 h
  rcases List.mem_cons.1 ha with ea | ha' <;> rcases List.mem_cons.1 hb with eb | hb'
  ·rw [ea,eb]
  ·have:=h1 b hb';rw [ea] at e;omega
  ·have:=h1 a ha';rw [eb] at e;omega
  ·exact ih h2 ha' hb'
theorem kp (known eo:Int):∀ (l:List Version) b m,(m.map (·.1)).Nodup→((inForceM known eo l b m).map (·.1)).Nodup
 | [],b,m,h=>h
 | y::l,b,m,h=>by
  simp only [inForceM,Bool.cond_eq_ite]
  split
  ·exact kp known eo l _ _ h
  ·split
   ·split
    ·exact kp known eo l _ _ h
    ·exact kp known eo l _ _ (jt _ _ h)
   ·exact kp known eo l _ _ (jt _ _ h)
theorem vL (l:List Version) (eo known:Int):(ef l eo known).Pairwise (fun p q=>p.1 < q.1):=by
 rw [qZ,List.pairwise_map]
 exact pU (jw _) ((gS _).nodup_iff.2 (kp known eo l (-1) [] List.nodup_nil))
theorem Er {l:List Version} (g:o9 l) (eo known:Int):(ef l eo known).Pairwise (fun p q=>p.2.No≠q.2.No):=by
 have hP:=xF (l:=l) (eo:=eo) (known:=known) (fun p=>((p.2.At≤eo∧p.1=eo)∨(eo < p.2.At∧p.1=p.2.At))∧p.2∈l) (fun y hy h=>⟨.inl ⟨h,rfl⟩,hy⟩) (fun y hy h=>⟨.inr ⟨h,rfl⟩,hy⟩)
 refine (vL l eo known).imp_of_mem fun {p q} hp hq hlt e=>?_
 have h1:=hP p hp
 have h2:=hP q hq
 have h3:=JG g.inc h1.2 h2.2 e
 rw [h3] at h1
 omega
structure Jdg (l:List Version) (J:List Int×Int×Int):Prop where
 err:J.2.2=0
 rise:J.1.Pairwise (· < ·)
 mem:∀ x∈J.1,∃ v∈l,v.No=x
 mode:J.1≠[]→1≤J.2.1∧J.2.1≤4
theorem tH {l:List Version} (g:o9 l) {begun at_ known:Int} (hb:0≤begun∧begun < 1099511627776) (ht:0≤at_∧at_ < 1099511627776) (hk:0≤known∧known < 1099511627776) (hle:begun≤at_):Jdg l (ay l begun at_ known):=by
 have h0:bh l=0:=(je l).2 g
 have h1:∀ x:Int,0≤x∧x < 1099511627776→eZ x=true:=fun x hx=>by simp [eZ,hx]
 have h2:decide (at_ < begun)=false:=by simp;omega
 unfold ay
 rw [h0,h1 _ hb,h1 _ ht,h1 _ hk,h2]
 simp only [bne_self_eq_false,cond_false,Bool.not_true,Bool.or_false]
 obtain ⟨pre,b',hs,e⟩:=AI begun at_ ay.K1 (ef l begun known) false []
 rw [e,List.nil_append]
 unfold ay.K1
 cases hc:(((pre.map (·.2)).length:Int)==0) with
 | true=>exact ⟨rfl,List.Pairwise.nil,fun x hx=>(List.not_mem_nil hx).elim,fun h=>absurd rfl h⟩
 | false=>
  simp only [cond_false,tI,ay.K2,List.nil_append]
  have hpre:pre.length≠0:=by simpa using hc
  have hsub:=El ((nthI (pre.map (·.2)) (((pre.map (·.2)).length:Int) - 1)).Policy.Mode) (pre.map (·.2)) b'
  have hnd:(pre.map (·.2)).Pairwise (fun a b=>a.No≠b.No):=by
   rw [List.pairwise_map]
   exact (Er g begun known).sublist hs
  refine ⟨rfl,pU (jw _) ((gS _).nodup_iff.2 ?_),fun x hx=>?_,fun _=>?_⟩
  ·show List.Pairwise _ _
   rw [List.pairwise_map]
   exact hnd.sublist hsub
  ·have hx2:=(gS _).mem_iff.1 hx
   obtain ⟨v,hv,rfl⟩:=List.mem_map.1 hx2
   obtain ⟨p,hp,rfl⟩:=List.mem_map.1 (hsub.subset hv)
   exact ⟨p.2,sI p (hs.subset hp),rfl⟩
  ·have hm:nthI (pre.map (·.2)) (((pre.map (·.2)).length:Int) - 1)∈pre.map (·.2):=fw (by rw [List.length_map];omega)
   obtain ⟨p,hp,hpe⟩:=List.mem_map.1 hm
   have:=g.mode (sI p (hs.subset hp))
   rw [hpe] at this
   exact this
theorem yB (no:Int) (k:Version):∀ (l:List Version),l.Pairwise (fun a b=>a.No < b.No)→∀ v∈l,v.No=no→aV.L1 no k l=v
 | x::l,h,v,hv,e=>by
  obtain ⟨h1,h2⟩:=List.pairwise_cons.1 h
  simp only [aV.L1,Bool.cond_eq_ite,beq_iff_eq]
  rcases List.mem_cons.1 hv with rfl | hv
  ·rw [if_pos e]
  ·rw [if_neg (by have:=h1 v hv;omega)]
   exact yB no k l h2 v hv e
theorem zP {r:Register} (g:o9 r.Versions) {J:List Int×Int×Int} (j:Jdg r.Versions J):(r.Versions.filter fun v=>dM J.1 v.No)=J.1.map (aV r):=by
 have hmem:∀ x,x∈((r.Versions.filter fun v=>dM J.1 v.No).map (·.No))↔x∈J.1:=by
  intro x
  rw [List.mem_map]
  constructor
  ·rintro ⟨v,hv,rfl⟩
   exact (wd _ _).1 (List.mem_filter.1 hv).2
  ·intro hx
   obtain ⟨v,hv,rfl⟩:=j.mem x hx
   exact ⟨v,List.mem_filter.2 ⟨hv,(wd _ _).2 hx⟩,rfl⟩
 have hri:((r.Versions.filter fun v=>dM J.1 v.No).map (·.No)).Pairwise (· < ·):=by
  rw [List.pairwise_map]
  exact g.inc.sublist (List.filter_sublist ..)
 have he:(r.Versions.filter fun v=>dM J.1 v.No).map (·.No)=J.1:=by
  refine ph (hri.imp fun h=>Int.le_of_lt h) (j.rise.imp fun h=>Int.le_of_lt h) ?_
  exact (List.perm_ext_iff_of_nodup (hri.imp fun h=>by omega) (j.rise.imp fun h=>by omega)).2 hmem
 conv=>rhs;rw [← he]
 rw [List.map_map]
 conv=>lhs;rw [← List.map_id (r.Versions.filter fun v=>dM J.1 v.No)]
 apply List.map_congr_left
 intro v hv
 exact (yB v.No _ _ g.inc v (List.mem_filter.1 hv).1 rfl).symm
theorem Fz (mode:Int):(eP mode []).1=false:=by
 unfold eP aN
 have h1:∀ f,bZ [] f=-1:=fun _=>rfl
 have h2:decide (0≤(-1:Int))=false:=rfl
 rw [h1,h1,h2]
 cases (fm mode [] != 0) <;> cases (mode==4) <;> cases (mode==3) <;> cases (mode != 4) <;> rfl
theorem FA {mode:Int} (hm:1≤mode∧mode≤4) {l:List Bool} (hl:l.length≤256):(eP mode l).2=0:=by
 have hc:fm mode l=0:=by
  have h1:mhas gN mode=true:=by
   have:mode=1∨mode=2∨mode=3∨mode=4:=by omega
   rcases this with rfl | rfl | rfl | rfl <;> rfl
  unfold fm
  rw [h1,show decide (256 < (l.length:Int))=false from decide_eq_false (by omega)]
  rfl
 have k1:∀ (k:List Int→List Int×Bool×Int),(∀ g,(k g).2.2=0)→∀ (s:List Bool) i g,(aN.L1 k s i g).2.2=0:=by
  intro k hk s
  induction s with
  | nil=>intro i g;exact hk g
  | cons y s ih=>intro i g;exact ih _ _
 have k2:∀ (k:List Int→List Int×Bool×Int),(∀ g,(k g).2.2=0)→∀ (s:List Bool) i g,(aN.L2 k s i g).2.2=0:=by
  intro k hk s
  induction s with
  | nil=>intro i g;exact hk g
  | cons y s ih=>intro i g;exact ih _ _
 have k3:∀ (k:List Int→List Int×Bool×Int),(∀ g,(k g).2.2=0)→∀ (s:List Bool) i g,(aN.L3 k s i g).2.2=0:=by
  intro k hk s
  induction s with
  | nil=>intro i g;exact hk g
  | cons y s ih=>intro i g;exact ih _ _
 show (aN mode l).2.2=0
 unfold aN
 rw [hc]
 simp only [bne_self_eq_false,cond_false,Bool.cond_eq_ite]
 repeat' split
 all_goals first
  | rfl
  | exact k1 _ (fun _=>rfl) _ _ _
  | exact k2 _ (fun _=>rfl) _ _ _
  | exact k3 _ (fun _=>rfl) _ _ _
theorem rC (k:Int→Int) (hk:∀ g,k g=0):∀ (l:List Int) (g:Int),(∀ x∈l,g < x∧x≤1048576)→l.Pairwise (· < ·)→bP.L1 k l g=0
 | [],g,_,_=>hk g
 | y::l,g,h,hp=>by
  have h1:=h y (List.mem_cons_self ..)
  have e:(decide (y≤g)||decide (1048576 < y))=false:=by simp;omega
  simp only [bP.L1,e,cond_false]
  exact rC k hk l y (fun x hx=>⟨(List.pairwise_cons.1 hp).1 x hx,(h x (List.mem_cons_of_mem _ hx)).2⟩) (List.pairwise_cons.1 hp).2
theorem Dc {l:List Interest} (hc:bJ l=0) {p t known:Int} {ps:List Int} (hp:0≤p∧p < 64) (hps:((∀ x∈ps,0≤x∧x < 1048577)∧ps.Pairwise (· < ·))∧ps.length≤16) (ht:0≤t∧t < 1099511627776) (hk:0≤known∧known < 1099511627776):(dB l p ps t known).2.2=0:=by
 have e:bP l p ps t known=0:=by
  unfold bP
  rw [hc]
  refine rC _ (fun g=>?_) ps (-1) (fun x hx=>by have:=hps.1.1 x hx;omega) hps.1.2
  unfold bP.K1
  have h1:aS p 64=true:=by simp [aS,hp]
  have h2:aS t 1099511627776=true:=by simp [aS,ht]
  have h3:aS known 1099511627776=true:=by simp [aS,hk]
  have h4:decide (16 < (ps.length:Int))=false:=by simp;omega
  rw [h1,h2,h3,h4];rfl
 unfold dB
 rw [e];rfl
def cval (q:aC) (who:List Int) (t:Int) (p:Policy):Bool:=
 bif (decide (q.doc.Kind < (p.Rules.length:Int))&&decide ((q.doc.At+(nthI p.Rules q.doc.Kind).Think)≤t)) then ((bY p q.doc.Kind q.doc.Value (ar q p t) (bv who (fun ed=>bB ed q t))).1&&((bY p q.doc.Kind q.doc.Value (ar q p t) (bv who (fun ed=>bB ed q t))).2==0))
 else (decide (q.doc.Kind < (p.Rules.length:Int))&&decide ((q.doc.At+(nthI p.Rules q.doc.Kind).Think)≤t))
theorem Kd (q:aC) (who:List Int) (t:Int) (k:List Bool→Bool):∀ (l:List Policy) (g:List Bool),cT.L1 q who t k l g=k (g++l.map (cval q who t))
 | [],g=>by simp [cT.L1]
 | y::l,g=>by
  have ih:=Kd q who t k l
  simp only [cT.L1,ih,List.map_cons]
  unfold cval
  cases (decide (q.doc.Kind < (y.Rules.length:Int))&&decide ((q.doc.At+(nthI y.Rules q.doc.Kind).Think)≤t)) <;> simp
theorem wS {β : Type} (F:(Expr→β)→Expr→β) (go:Nat→Expr→β) (h:∀ m,go (m+1)=F (go m)) (hF:∀ f g x,(∀ y∈x.L,f y=g y)→F f x=F g x) (x:Expr):go x.dep x=F (fun y=>go y.dep y) x:=by
 have key:∀ x:Expr,∀ m,x.dep≤m→go m x=go x.dep x:=by
  refine fun x=>Expr.ind (P:=fun x=>∀ m,x.dep≤m→go m x=go x.dep x) ?_ x
  intro x ih m hm
  have hp:=Expr.jH x
  obtain ⟨m',rfl⟩:∃ m',m=m'+1:=⟨m - 1,by omega⟩
  obtain ⟨n,hn⟩:∃ n,x.dep=n+1:=⟨x.dep - 1,by omega⟩
  rw [hn,h,h]
  refine hF _ _ _ fun y hy=>?_
  have:=Expr.gj hy
  rw [ih y hy m' (by omega),ih y hy n (by omega)]
 have hp:=Expr.jH x
 obtain ⟨n,hn⟩:∃ n,x.dep=n+1:=⟨x.dep - 1,by omega⟩
 rw [hn,h]
 refine hF _ _ _ fun y hy=>?_
 have:=Expr.gj hy
 exact key y n (by omega)
theorem Jg (x:Expr):aY x=aY.F aY x:=by
 refine wS aY.F aY.go (fun m=>rfl) (fun f g x h=>?_) x
 unfold aY.F
 have:∀ (k:Int→Int) (l:List Expr) a,(∀ y∈l,f y=g y)→aY.L1 f k l a=aY.L1 g k l a:=by
  intro k l
  induction l with
  | nil=>intros;rfl
  | cons y l ih=>intro a hl;simp only [aY.L1,hl y (List.mem_cons_self ..)];exact ih _ fun z hz=>hl z (List.mem_cons_of_mem _ hz)
 exact this _ _ _ h
theorem depthL (l:List Expr):∀ (a:Int),a≤aY.L1 aY (fun g=>g) l a∧(∀ y∈l,aY y≤aY.L1 aY (fun g=>g) l a)∧∀ M:Int,a≤M→(∀ y∈l,aY y≤M)→aY.L1 aY (fun g=>g) l a≤M:=by
 induction l with
 | nil=>intro a;exact ⟨Int.le_refl _,fun _ h=>(List.not_mem_nil h).elim,fun M h _=>h⟩
 | cons y l ih=>
  intro a
  obtain ⟨i1,i2,i3⟩:=ih (max a (aY y))
  simp only [aY.L1]
  refine ⟨by omega,fun w hw=>?_,fun M h1 h2=>i3 M (by have:=h2 y (List.mem_cons_self ..);omega) fun w hw=>h2 w (List.mem_cons_of_mem _ hw)⟩
  rcases List.mem_cons.1 hw with rfl | hw
  ·omega
  ·exact i2 w hw
theorem depthK (l:List Expr):∀ (a:Int),aY.L1 aY aY.K1 l a=IntKind.i64.wrap (aY.L1 aY (fun g=>g) l a+1):=by
 induction l with
 | nil=>intro a;rfl
 | cons y l ih=>intro a;exact ih _
theorem EO (x:Expr):x.dep≤1500000→(1≤aY x∧aY x≤x.dep)∧aY x=aY.L1 aY (fun g=>g) x.L 0+1:=by
 refine Expr.ind (P:=fun x=>x.dep≤1500000→(1≤aY x∧aY x≤x.dep)∧aY x=aY.L1 aY (fun g=>g) x.L 0+1) ?_ x
 intro x ih hx
 obtain ⟨i1,i2,i3⟩:=depthL x.L 0
 have hp:=Expr.jH x
 have h3:=i3 ((x.dep:Int) - 1) (by omega) fun y hy=>by
  have h4:=Expr.gj hy
  have:=(ih y hy (by omega)).1.2
  omega
 have e:aY x=aY.L1 aY (fun g=>g) x.L 0+1:=by
  rw [Jg]
  unfold aY.F
  rw [depthK,wrap64 (by omega)]
 exact ⟨by omega,e⟩
theorem EN (x:Expr):x.dep≤1500000→∀ (d D:Int),aY x≤D→∀ z∈a8 x d,z.depth≤d+D - 1:=by
 refine Expr.ind (P:=fun x=>x.dep≤1500000→∀ (d D:Int),aY x≤D→∀ z∈a8 x d,z.depth≤d+D - 1) ?_ x
 intro x ih hx d D hD z hz
 obtain ⟨h1,h2⟩:=EO x hx
 rw [ls] at hz
 rcases List.mem_cons.1 hz with rfl | hz
 ·show d≤d+D - 1;omega
 ·obtain ⟨y,hy,hz⟩:=List.mem_flatMap.1 hz
  have h4:=Expr.gj hy
  have h5:=(depthL x.L 0).2.1 y hy
  have:=ih y hy (by omega) (d+1) (D - 1) (by omega) z hz
  omega
theorem Je (x:Expr):cI x=cI.F cI x:=by
 refine wS cI.F cI.go (fun m=>rfl) (fun f g x h=>?_) x
 funext limit
 unfold cI.F
 have:∀ (k:Int→Int) (l:List Expr) a,(∀ y∈l,f y=g y)→cI.L1 f limit k l a=cI.L1 g limit k l a:=by
  intro k l
  induction l with
  | nil=>intros;rfl
  | cons y l ih=>
   intro a hl
   simp only [cI.L1,hl y (List.mem_cons_self ..)]
   rw [ih _ fun z hz=>hl z (List.mem_cons_of_mem _ hz)]
 exact this _ _ _ h
def cnt (x:Expr):Nat:=(a8 x 1).length
theorem Ld (x:Expr):∀ d,(a8 x d).length=cnt x:=by
 refine Expr.ind (P:=fun x=>∀ d,(a8 x d).length=cnt x) ?_ x
 intro x ih d
 unfold cnt
 rw [ls,ls x 1,List.length_cons,List.length_cons,List.length_flatMap,List.length_flatMap]
 congr 2
 apply List.map_congr_left
 intro y hy
 rw [ih y hy,ih y hy]
theorem I9 (x:Expr):cnt x=1+(x.L.map cnt).sum:=by
 conv=>lhs;unfold cnt
 rw [ls,List.length_cons,List.length_flatMap,Nat.add_comm]
 congr 2
 apply List.map_congr_left
 intro y hy
 exact Ld y _
theorem Co (x:Expr):∀ limit:Int,0≤limit→limit≤256→cI x limit=min (cnt x:Int) (limit+1):=by
 refine Expr.ind (P:=fun x=>∀ limit:Int,0≤limit→limit≤256→cI x limit=min (cnt x:Int) (limit+1)) ?_ x
 intro x ih limit h0 h1
 rw [Je,I9]
 unfold cI.F
 have key:∀ (l:List Expr) (a:Int),(∀ y∈l,y∈x.L)→1≤a→a≤limit+1→cI.L1 cI limit cI.K1 l a=min (a+((l.map cnt).sum:Nat)) (limit+1):=by
  intro l
  induction l with
  | nil=>intro a _ _ ha;simp only [cI.L1,cI.K1,List.map_nil,List.sum_nil];omega
  | cons y l ih2=>
   intro a hl h2 h3
   simp only [cI.L1,Bool.cond_eq_ite,decide_eq_true_eq,List.map_cons,List.sum_cons]
   by_cases ha:a≤limit
   ·rw [if_pos ha,wrap64 (z:=limit - a) (by omega),ih y (hl y (List.mem_cons_self ..)) (limit - a) (by omega) (by omega)]
    have hc:1≤cnt y:=by rw [I9];omega
    rw [wrap64 (by omega),ih2 _ (fun z hz=>hl z (List.mem_cons_of_mem _ hz)) (by omega) (by omega)]
    omega
   ·rw [if_neg ha]
    simp only [cI.K1]
    omega
 rw [key x.L 1 (fun y hy=>hy) (by omega) (by omega)]
 omega
theorem Eg {x:Expr} (hx:x.dep≤1500000) (h:ig x=false):(a8 x 1).length≤256∧∀ z∈a8 x 1,z.depth≤16:=by
 simp only [ig,Bool.or_eq_false_iff,decide_eq_false_iff_not] at h
 have h1:=Co x 256 (by decide) (by decide)
 have h2:=EN x hx 1 16 (by omega)
 refine ⟨?_,fun z hz=>by have:=h2 z hz;omega⟩
 show cnt x≤256
 omega
theorem xj (s:ByteArray):∀ (m i:Nat) (r:List UInt8),s.size - i=m→(ByteArray.toList.loop s i r).length=r.length+m
 | 0,i,r,h=>by rw [ByteArray.toList.loop];rw [if_neg (by omega)];simp
 | m+1,i,r,h=>by
  rw [ByteArray.toList.loop,if_pos (by omega),xj s m (i+1) _ (by omega),List.length_cons]
  omega
theorem qt (s:ByteArray):s.toList.length=s.size:=by
 have:=xj s s.size 0 [] (by omega)
 simpa [ByteArray.toList] using this
theorem JO {α : Type} (c:Bool) (a b d:α):(bif c then (bif c then a else b) else d)=bif c then a else d:=by cases c <;> rfl
theorem KM (c x:Bool):(bif c then false else x)=(!c&&x):=by cases c <;> rfl
theorem KL (c x:Bool):(bif c then true else x)=(c||x):=by cases c <;> simp
theorem Cg (s:ByteArray):da s=(dc s&&!(lq s)):=by
 unfold da lq
 simp only [JO]
 simp only [KM,KL,Bool.not_or,Bool.or_false]
 ac_rfl
theorem wf (c:Int):(iK c != 2)=!(i6 c):=by
 unfold iK i6
 cases ((decide (97≤c)&&decide (c≤122))||(decide (65≤c)&&decide (c≤90))) <;> cases (decide (48≤c)&&decide (c≤57)) <;> cases (c==95) <;> cases ((((c==32)||(c==9))||(c==10))||(c==13)) <;> cases (decide (0≤(strings_IndexByte (⟨#[123,125,40,41,59,44,61,58,46,60,62,33,43,45,42,47]⟩:ByteArray) c))) <;> rfl
theorem Fw (c:Int):(((iK c != 2)&&(iK c != 3))&&(iK c != 5))=!(m6 c):=by
 unfold iK m6 i6 kF
 cases ((decide (97≤c)&&decide (c≤122))||(decide (65≤c)&&decide (c≤90))) <;> cases (decide (48≤c)&&decide (c≤57)) <;> cases (c==95) <;> cases ((((c==32)||(c==9))||(c==10))||(c==13)) <;> cases (decide (0≤(strings_IndexByte (⟨#[123,125,40,41,59,44,61,58,46,60,62,33,43,45,42,47]⟩:ByteArray) c))) <;> rfl
theorem CV (s:ByteArray):∀ (l:List Nat) (i:Nat),dc.L1 s dc.K1 l i=fA.L1 s fA.K1 l i
 | [],i=>rfl
 | y::l,i=>by simp only [dc.L1,fA.L1,Fw,CV s l]
theorem F8 {s:ByteArray} (h:fA s=true):dc s=true:=by
 unfold fA at h
 unfold dc
 rw [wf,CV]
 rw [Bool.cond_eq_ite] at h ⊢
 split at h
 ·cases h
 ·next hc=>
  simp only [Bool.or_eq_true,not_or,decide_eq_true_eq] at hc
  obtain ⟨⟨h1,h2⟩,h3⟩:=hc
  have e:(s.toList==(⟨#[]⟩:ByteArray).toList)=false:=by
   rw [Bool.eq_false_iff]
   intro he
   have he:=eq_of_beq he
   have h9:=qt s
   rw [he,qt] at h9
   have:(⟨#[]⟩:ByteArray).size=0:=rfl
   omega
  rw [e,if_neg]
  ·exact h
  ·simp only [Bool.false_or,Bool.or_eq_true,not_or,decide_eq_true_eq]
   exact ⟨h2,h3⟩
theorem Gs {s:ByteArray} (h:kE s=true):da s=true:=by
 simp only [kE,Bool.and_eq_true] at h
 rw [Cg,F8 h.1,h.2];rfl
theorem BF (s:ByteArray):∀ (l:List ByteArray) (i:Nat),dA.L1 s dA.K1 l i=aJ.L1 s aJ.K1 l i
 | [],i=>rfl
 | y::l,i=>by
  have:(y.toList==s.toList)=(s.toList==y.toList):=by rw [Bool.eq_iff_iff,beq_iff_eq,beq_iff_eq];exact eq_comm
  simp only [dA.L1,aJ.L1,this,BF s l]
theorem rindex (l:List ByteArray) (s:ByteArray):dA l s=aJ l s:=BF s l 0
theorem xP {l:List ByteArray} (h:dI l=true):bo l da=true:=by
 have key:∀ (L l:List ByteArray) (i:Nat),dI.L1 L dI.K1 l i=true→bo.L1 L da bo.K1 l i=true:=by
  intro L l
  induction l with
  | nil=>intros;rfl
  | cons y l ih=>
   intro i h
   simp only [dI.L1,Bool.cond_eq_ite] at h
   split at h
   ·cases h
   ·next hc=>
    simp only [Bool.or_eq_true,not_or,Bool.not_eq_true',Bool.not_eq_false,Bool.not_eq_true] at hc
    simp only [bo.L1,Gs hc.1,← rindex,hc.2,Bool.not_true,Bool.or_self,cond_false]
    exact ih _ h
 exact key l l 0 h
theorem pA (off:List ByteArray) {f g:List ByteArray→Expr→Bool} (k:Bool):∀ (l:List Expr),(∀ y∈l,f off y=g off y)→bC.L1 f off k l=bC.L1 g off k l
 | [],_=>rfl
 | y::l,h=>by simp only [bC.L1,h y (List.mem_cons_self ..),pA off k l fun z hz=>h z (List.mem_cons_of_mem _ hz)]
theorem D7 (off:List ByteArray) (x:Expr):bC off x=bC.F bC off x:=by
 have:=wS (fun f x=>bC.F (fun _ y=>f y) off x) (fun m x=>bC.go m off x) (fun m=>?_) (fun f g x h=>?_) x
 ·refine Eq.trans this ?_
  show bC.F _ off x=_
  unfold bC.F
  rw [pA off (f:=fun _ y=>bC.go y.dep off y) (g:=bC) _ x.L fun y hy=>rfl]
 ·funext x
  show bC.F (bC.go m) off x=bC.F _ off x
  unfold bC.F
  rw [pA off (f:=bC.go m) (g:=fun _ y=>bC.go m off y) _ x.L fun y hy=>rfl]
 ·show bC.F _ off x=bC.F _ off x
  unfold bC.F
  rw [pA off (f:=fun _ y=>f y) (g:=fun _ y=>g y) _ x.L h]
theorem BT (off:List ByteArray):∀ (l:List Expr),bC.L1 bC off bC.K1 l=true→∀ y∈l,bC off y=true
 | [],_=>fun _ h=>(List.not_mem_nil h).elim
 | y::l,h=>by
  simp only [bC.L1,Bool.cond_eq_ite] at h
  split at h
  ·cases h
  ·next hc=>
   intro z hz
   rcases List.mem_cons.1 hz with rfl | hz
   ·simpa using hc
   ·exact BT off l h z hz
theorem D6 (off:List ByteArray) (x:Expr):bC off x=true→∀ d,∀ z∈a8 x d,((!(cC z.x))||cr off z.x.Name)=true:=by
 refine Expr.ind (P:=fun x=>bC off x=true→∀ d,∀ z∈a8 x d,((!(cC z.x))||cr off z.x.Name)=true) ?_ x
 intro x ih h d z hz
 rw [D7] at h
 unfold bC.F at h
 rw [Bool.cond_eq_ite] at h
 split at h
 ·cases h
 ·next hc=>
  rw [ls] at hz
  rcases List.mem_cons.1 hz with rfl | hz
  ·show ((!(cC x))||cr off x.Name)=true
   unfold cr cC
   rw [rindex] at hc
   by_cases h2:aJ off x.Name < 0
   ·have:decide (aJ off x.Name < 0)=true:=by simpa using h2
    rw [this,Bool.and_true] at hc
    simp only [Bool.not_eq_true] at hc
    rw [hc];rfl
   ·have:decide (0≤aJ off x.Name)=true:=by simp;omega
    rw [this,Bool.or_true]
  ·obtain ⟨y,hy,hz⟩:=List.mem_flatMap.1 hz
   exact ih y hy (BT off x.L h y hy) (d+1) z hz
theorem n0 (u:Bool) {f g:Expr→Bool→Bool} (k:Bool):∀ (l:List Expr),(∀ y∈l,f y u=g y u)→aB.L1 f u k l=aB.L1 g u k l
 | [],_=>rfl
 | y::l,h=>by simp only [aB.L1,h y (List.mem_cons_self ..),n0 u k l fun z hz=>h z (List.mem_cons_of_mem _ hz)]
theorem Ci (x:Expr) (u:Bool):aB x u=aB.F aB x u:=by
 have:=wS (fun f x=>aB.F (fun y _=>f y) x u) (fun m x=>aB.go m x u) (fun m=>?_) (fun f g x h=>?_) x
 ·refine Eq.trans this ?_
  show aB.F _ x u=_
  unfold aB.F
  rw [n0 u (f:=fun y _=>aB.go y.dep y u) (g:=aB) _ x.L fun y hy=>rfl]
 ·funext x
  show aB.F (aB.go m) x u=aB.F _ x u
  unfold aB.F
  rw [n0 u (f:=aB.go m) (g:=fun y _=>aB.go m y u) _ x.L fun y hy=>rfl]
 ·show aB.F _ x u=aB.F _ x u
  unfold aB.F
  rw [n0 u (f:=fun y _=>f y) (g:=fun y _=>g y) _ x.L h]
theorem Aq (u k:Bool):∀ (l:List Expr),aB.L1 aB u k l=true→(∀ y∈l,aB y u=true)∧k=true
 | [],h=>⟨fun _ h=>(List.not_mem_nil h).elim,h⟩
 | y::l,h=>by
  simp only [aB.L1,Bool.cond_eq_ite] at h
  split at h
  ·cases h
  ·next hc=>
   obtain ⟨h1,h2⟩:=Aq u k l h
   refine ⟨fun z hz=>?_,h2⟩
   rcases List.mem_cons.1 hz with rfl | hz
   ·simpa using hc
   ·exact h1 z hz
theorem He {x:Expr} {u:Bool} (h:aB.K1 x u=true):(aH x.Kind 1 4&&kindsP x.Kind x)=true∧(u=false→x.Kind≠4):=by
 unfold aB.K1 at h
 simp only [Bool.cond_eq_ite,beq_iff_eq] at h
 split at h
 ·next e=>
  rw [e]
  refine ⟨?_,fun _=>by decide⟩
  show (_&&io x)=true
  unfold io
  rw [h];rfl
 ·split at h
  ·next e=>
   rw [e]
   refine ⟨?_,fun _=>by decide⟩
   show (_&&im x)=true
   unfold im aH
   rw [h];rfl
  ·split at h
   ·next e=>
    rw [e]
    refine ⟨?_,fun _=>by decide⟩
    show (_&&il x)=true
    unfold il aH
    simp only [Bool.and_eq_true] at h ⊢
    exact ⟨⟨rfl,rfl⟩,⟨h.1.1.1.1,h.1.1.1.2,h.1.1.2⟩,h.1.2,h.2⟩
   ·split at h
    ·next e=>
     rw [e]
     simp only [Bool.and_eq_true] at h
     refine ⟨?_,fun hu=>by rw [hu] at h;simp at h⟩
     show (_&&gP x)=true
     unfold gP aH
     simp only [Bool.and_eq_true]
     exact ⟨⟨rfl,rfl⟩,⟨h.1.1.1.2,h.1.1.2⟩,h.1.2,h.2⟩
    ·cases h
theorem Ch (u:Bool) (x:Expr):aB x u=true→∀ d,∀ z∈a8 x d,(aH z.x.Kind 1 4&&kindsP z.x.Kind z.x)=true∧(u=false→z.x.Kind≠4):=by
 refine Expr.ind (P:=fun x=>aB x u=true→∀ d,∀ z∈a8 x d,(aH z.x.Kind 1 4&&kindsP z.x.Kind z.x)=true∧(u=false→z.x.Kind≠4)) ?_ x
 intro x ih h d z hz
 rw [Ci] at h
 obtain ⟨h1,h2⟩:=Aq u _ x.L h
 rw [ls] at hz
 rcases List.mem_cons.1 hz with rfl | hz
 ·exact He h2
 ·obtain ⟨y,hy,hz⟩:=List.mem_flatMap.1 hz
  exact ih y hy (h1 y hy) (d+1) z hz
theorem rl1 (rec:List ByteArray→Expr→Expr) (off:List ByteArray) (k:List Expr→Expr):∀ (l g:List Expr),aa.L1 rec off k l g=k (g++l.map (rec off))
 | [],g=>by simp [aa.L1]
 | y::l,g=>by simp [aa.L1,rl1 rec off k l]
theorem rl2 (rec:List ByteArray→Expr→Expr) (off:List ByteArray) (k:List Expr→Expr):∀ (l g:List Expr),aa.L2 rec off k l g=k (g++l.map (rec off))
 | [],g=>by simp [aa.L2]
 | y::l,g=>by simp [aa.L2,rl2 rec off k l]
def rno (off:List ByteArray) (x:Expr):Int:=bif cC x then aJ off x.Name else 0
theorem Fe (rec:List ByteArray→Expr→Expr) (off:List ByteArray) (x:Expr):aa.F rec off x=Expr.mk x.Kind x.N (rno off x) x.Name (x.L.map (rec off)):=by
 unfold aa.F rno cC
 cases ((x.Kind==1)||(x.Kind==2))
 ·rw [cond_false,rl2];rfl
 ·rw [cond_true,rl1];unfold aa.K1;rw [rindex];rfl
theorem xr (off:List ByteArray) (x:Expr):aa off x=Expr.mk x.Kind x.N (rno off x) x.Name (x.L.map (aa off)):=by
 have:=wS (fun f x=>Expr.mk x.Kind x.N (rno off x) x.Name (x.L.map f)) (fun m x=>aa.go m off x) (fun m=>?_) (fun f g x h=>?_) x
 ·exact this
 ·funext x
  show aa.F (aa.go m) off x=_
  rw [Fe]
 ·show Expr.mk _ _ _ _ _=Expr.mk _ _ _ _ _
  rw [List.map_congr_left h]
theorem yU (b:Expr) {f g:Expr→Expr→Bool} (k:Bool):∀ (l:List Expr) (i:Nat),(∀ y∈l,f y=g y)→aX.L1 f b k l i=aX.L1 g b k l i
 | [],_,_=>rfl
 | y::l,i,h=>by simp only [aX.L1,h y (List.mem_cons_self ..),yU b k l (i+1) fun z hz=>h z (List.mem_cons_of_mem _ hz)]
theorem F3 (x:Expr):aX x=aX.F aX x:=by
 refine wS aX.F aX.go (fun m=>rfl) (fun f g x h=>?_) x
 funext b
 unfold aX.F
 rw [yU b _ x.L 0 h]
theorem F4 (b:Expr):∀ (l:List Expr) (i:Nat),aX.L1 aX b aX.K1 l i=true→∀ (j:Nat) (y:Expr),l[j]? = some y→aX y (nthI b.L ((i+j:Nat):Int))=true
 | [],_,_,j,y,hj=>by simp at hj
 | z::l,i,h,j,y,hj=>by
  simp only [aX.L1,Bool.cond_eq_ite] at h
  split at h
  ·cases h
  ·next hc=>
   cases j with
   | zero=>simp at hj;subst hj;simpa using hc
   | succ j=>have:=F4 b l (i+1) h j y (by simpa using hj);rw [show i+(j+1)=i+1+j from by omega];exact this
theorem Jt (off:List ByteArray) (x:Expr):aX (aa off x) x=true→∀ d,∀ z∈a8 x d,z.x.No=rno off z.x:=by
 refine Expr.ind (P:=fun x=>aX (aa off x) x=true→∀ d,∀ z∈a8 x d,z.x.No=rno off z.x) ?_ x
 intro x ih h d z hz
 rw [F3,xr] at h
 unfold aX.F at h
 rw [Bool.cond_eq_ite] at h
 split at h
 ·cases h
 ·next hc=>
  simp only [Bool.or_eq_true,not_or,bne_iff_ne,ne_eq,Classical.not_not] at hc
  have hno:rno off x=x.No:=hc.1.1.2
  rw [ls] at hz
  rcases List.mem_cons.1 hz with rfl | hz
  ·exact hno.symm
  ·obtain ⟨y,hy,hz⟩:=List.mem_flatMap.1 hz
   obtain ⟨j,hj⟩:=List.getElem?_of_mem hy
   have h2:=F4 x _ 0 h j (aa off y) (by show (List.map (aa off) x.L)[j]? = _;rw [List.getElem?_map,hj];rfl)
   have hlt:=(List.getElem?_eq_some_iff.1 hj).1
   have hg:=bT (xs:=x.L) (z:=((0+j:Nat):Int)) (by omega)
   rw [show (((0+j:Nat):Int)).toNat=j from by omega,hj] at hg
   rw [← Option.some.inj hg] at h2
   exact ih y hy h2 (d+1) z hz
theorem xq {off:List ByteArray} {x:Expr} (h:aX (aa off x) x=true):bF off x=true:=by
 unfold bF bF.K1
 rw [nq]
 exact Jt off x h 1
def rrules (off:List ByteArray):List Rule→Nat→List Rule
 | [],_=>[]
 | y::l,i=>Rule.mk y.Kind (i:Int) y.Think (aa off y.Expr)::rrules off l (i+1)
theorem zd (off:List ByteArray):∀ (l:List Rule) (i j:Nat) (y:Rule),l[j]? = some y→(rrules off l i)[j]? = some (Rule.mk y.Kind ((i+j:Nat):Int) y.Think (aa off y.Expr))
 | [],_,j,y,h=>by simp at h
 | z::l,i,0,y,h=>by simp at h;subst h;rfl
 | z::l,i,j+1,y,h=>by
  have:=zd off l (i+1) j y (by simpa using h)
  rw [show i+(j+1)=i+1+j from by omega]
  exact this
theorem vg (p:Policy):∀ (l:List Rule) (i:Nat) (g:List Rule),df.L1 p (df.K1 p) l i g=(Policy.mk p.Name p.Kinds p.Offices (g++rrules p.Offices l i) (aa p.Offices p.Change) p.Mode,0)
 | [],i,g=>by
  simp only [df.L1,df.K1,rrules,List.append_nil,Expr.eta]
 | y::l,i,g=>by
  simp only [df.L1,vg p l,rrules,Expr.eta,List.append_assoc,List.singleton_append]
theorem GE (b:Policy):∀ (l:List Rule) (i:Nat),fY.L1 b fY.K1 l i=true→∀ (j:Nat) (y:Rule),l[j]? = some y→y.KindNo=(nthI b.Rules ((i+j:Nat):Int)).KindNo∧aX y.Expr (nthI b.Rules ((i+j:Nat):Int)).Expr=true
 | [],_,_,j,y,hj=>by simp at hj
 | z::l,i,h,j,y,hj=>by
  simp only [fY.L1,Bool.cond_eq_ite] at h
  split at h
  ·cases h
  ·next hc=>
   simp only [Bool.or_eq_true,not_or,bne_iff_ne,ne_eq,Classical.not_not,Bool.not_eq_true',Bool.not_eq_false] at hc
   cases j with
   | zero=>simp at hj;subst hj;exact ⟨hc.1.1.2,hc.2⟩
   | succ j=>have:=GE b l (i+1) h j y (by simpa using hj);rw [show i+(j+1)=i+1+j from by omega];exact this
theorem BS (p:Policy) (k:Bool):∀ (l:List Rule),fH.L1 p k l=true→(∀ r∈l,bC p.Offices r.Expr=true)∧k=true
 | [],h=>⟨fun _ h=>(List.not_mem_nil h).elim,h⟩
 | y::l,h=>by
  simp only [fH.L1,Bool.cond_eq_ite] at h
  split at h
  ·cases h
  ·next hc=>
   obtain ⟨h1,h2⟩:=BS p k l h
   refine ⟨fun z hz=>?_,h2⟩
   rcases List.mem_cons.1 hz with rfl | hz
   ·simpa using hc
   ·exact h1 z hz
theorem Eh (k:Bool):∀ (l:List Rule),el.L1 k l=false→∀ r∈l,ig r.Expr=false
 | [],_=>fun _ h=>(List.not_mem_nil h).elim
 | y::l,h=>by
  simp only [el.L1,Bool.cond_eq_ite] at h
  split at h
  ·cases h
  ·next hc=>
   intro z hz
   rcases List.mem_cons.1 hz with rfl | hz
   ·simpa using hc
   ·exact Eh k l h z hz
theorem Ar (p:Policy) (k:Bool):∀ (l:List Rule) (i:Nat),eX.L1 p k l i=true→(∀ (j:Nat) r,l[j]? = some r→((r.Kind.toList==(nthI p.Kinds (((i+j:Nat):Int))).toList)=true∧0≤r.Think∧r.Think < 1099511627776)∧aB r.Expr true=true)∧k=true
 | [],i,h=>⟨fun j r hj=>by simp at hj,h⟩
 | y::l,i,h=>by
  simp only [eX.L1,Bool.cond_eq_ite] at h
  split at h
  ·cases h
  ·next hc=>
   simp only [Bool.or_eq_true,not_or,decide_eq_true_eq,Bool.not_eq_true',Bool.not_eq_false] at hc
   obtain ⟨h1,h2⟩:=Ar p k l (i+1) h
   refine ⟨fun j r hj=>?_,h2⟩
   cases j with
   | zero=>simp at hj;subst hj;exact ⟨⟨hc.1.1.1,by omega,by omega⟩,hc.2⟩
   | succ j=>have:=h1 j r (by simpa using hj);rw [show i+(j+1)=i+1+j from by omega];exact this
theorem wh {p:Policy} (hs:smP p) (h:dX p=0):cj p=0:=by
 unfold dX at h
 rw [Bool.cond_eq_ite] at h
 split at h
 ·next hc=>exact absurd h (by simpa using hc)
 ·next hR=>
  rw [Bool.cond_eq_ite] at h
  split at h
  ·omega
  ·next hS=>
   simp only [Bool.not_eq_true',Bool.not_eq_false] at hS
   unfold df at hR hS
   cases hl:el p with
   | true=>rw [hl] at hR;simp at hR
   | false=>
    rw [hl] at hR hS
    cases hn:fH p with
    | false=>rw [hn] at hR;simp at hR
    | true=>
     rw [hn] at hR hS
     cases hf:eX p with
     | false=>rw [hf] at hR;simp at hR
     | true=>
      rw [hf] at hS
      simp only [Bool.not_true,cond_false,vg,List.nil_append] at hS
      clear hR h
      unfold el at hl
      rw [Bool.cond_eq_ite] at hl
      split at hl
      ·cases hl
      ·next h1=>
       simp only [Bool.or_eq_true,not_or,decide_eq_true_eq,Bool.not_eq_true] at h1
       have h2:=Eh _ _ hl
       unfold fH at hn
       rw [Bool.cond_eq_ite] at hn
       split at hn
       ·cases hn
       ·next h3=>
        simp only [Bool.or_eq_true,not_or,Bool.not_eq_true',Bool.not_eq_false] at h3
        obtain ⟨h4,h5⟩:=BS p _ _ hn
        unfold eX at hf
        rw [Bool.cond_eq_ite] at hf
        split at hf
        ·cases hf
        ·next h6=>
         simp only [Bool.or_eq_true,not_or,decide_eq_true_eq,bne_iff_ne,ne_eq,Classical.not_not] at h6
         obtain ⟨h7,h8⟩:=Ar p _ _ 0 hf
         unfold fY at hS
         rw [Bool.cond_eq_ite] at hS
         split at hS
         ·cases hS
         ·next h9=>
          simp only [Bool.or_eq_true,not_or,Bool.not_eq_true',Bool.not_eq_false] at h9
          have h10:=GE p _ 0 hS
          have hexp:∀ x,x∈ai p→(∃ r∈p.Rules,r.Expr=x)∨x=p.Change:=by
           intro x hx
           rw [kv] at hx
           simp only [List.mem_append,List.mem_map,List.mem_singleton] at hx
           exact hx
          rw [wg,pk,vp,zG]
          refine ⟨⟨⟨⟨by omega,by omega,by omega⟩,fun x hx=>?_⟩,⟨⟨Gs h3.1.1,xP h3.1.2,xP h3.2⟩,fun x hx=>?_⟩,?_⟩,fun j r hj=>?_,xq h9.2⟩
          ·rcases hexp x hx with ⟨r,hr,rfl⟩ | rfl
           ·exact Eg (hs.2.1 r hr) (h2 r hr)
           ·exact Eg hs.2.2.1 h1.2
          ·rcases hexp x hx with ⟨r,hr,rfl⟩ | rfl
           ·exact D6 p.Offices _ (h4 r hr) 1
           ·exact D6 p.Offices _ h5 1
          ·unfold aZ aZ.K1 aZ.K2
           rw [nj,vU,yG]
           refine ⟨?_,fun j r hj=>?_,fun j x hj z hz=>?_⟩
           ·simp only [Bool.and_eq_true,decide_eq_true_eq,beq_iff_eq,aH]
            exact ⟨⟨by omega,h6.1.1.2⟩,by omega,by omega⟩
           ·have:=(h7 j r hj).1
            simp only [Bool.and_eq_true,decide_eq_true_eq,aH]
            exact ⟨this.1,this.2.1,by omega⟩
           ·have hlen:(ai p).length=p.Rules.length+1:=by rw [kv];simp
            rw [kv] at hj
            rcases Nat.lt_or_ge j p.Rules.length with hjl | hjl
            ·rw [List.getElem?_append_left (by simpa using hjl),List.getElem?_map] at hj
             obtain ⟨r,hr,rfl⟩:=Option.map_eq_some_iff.1 hj
             refine ⟨(Ch true _ (h7 j r hr).2 1 z hz).1,?_⟩
             rw [hlen,wrap64 (by omega)]
             have:decide (((0+j:Nat):Int) < ((p.Rules.length+1:Nat):Int) - 1)=true:=by rw [decide_eq_true_eq];omega
             rw [this];rfl
            ·rw [List.getElem?_append_right (by simpa using hjl)] at hj
             have hj2:=List.mem_singleton.1 (List.mem_of_getElem? hj)
             subst hj2
             obtain ⟨k1,k2⟩:=Ch false _ h8 1 z hz
             refine ⟨k1,?_⟩
             have:(z.x.Kind != 4)=true:=by simpa using k2 rfl
             rw [this,Bool.or_true]
          ·have h11:=h10 j _ (zd p.Offices p.Rules 0 j r hj)
           have hlt:=(List.getElem?_eq_some_iff.1 hj).1
           have hg:=bT (xs:=p.Rules) (z:=((0+j:Nat):Int)) (by omega)
           rw [show (((0+j:Nat):Int)).toNat=j from by omega,hj] at hg
           rw [← Option.some.inj hg] at h11
           dsimp only at h11
           exact ⟨by rw [← h11.1];simp,xq h11.2⟩
def Jf (v:Version):Prop:=(0≤v.No∧v.No≤1048576)∧(0≤v.At∧v.At < 1099511627776)∧(0≤v.Known∧v.Known < 1099511627776)∧dX v.Policy=0
theorem Gz {L:List Version} {y:Version} {l:List Version} {i:Nat} (h:cy.L1 L cy.K1 (y::l) i=0):Jf y∧(0 < i→(nthI L ((i:Int) - 1)).No < y.No)∧cy.L1 L cy.K1 l (i+1)=0:=by
 simp only [cy.L1,Bool.cond_eq_ite] at h
 split at h
 ·omega
 ·next hc=>
  simp only [Bool.or_eq_true,not_or,decide_eq_true_eq,Bool.and_eq_true,Bool.not_eq_true',Bool.not_eq_false,bne_iff_ne,ne_eq,Classical.not_not,bM] at hc
  obtain ⟨⟨⟨⟨h1,h2⟩,h3⟩,h4⟩,h5⟩:=hc
  exact ⟨⟨by omega,h3,h4,h5⟩,fun hi=>by omega,h⟩
theorem GA (L:List Version):∀ (l pre:List Version) (x:Version),L=(pre++[x])++l→cy.L1 L cy.K1 l (pre.length+1)=0→(∀ y∈l,Jf y)∧(x::l).Pairwise (fun a b=>a.No < b.No)
 | [],_,_,_,_=>⟨fun _ h=>(List.not_mem_nil h).elim,by simp⟩
 | y::l,pre,x,h,hr=>by
  have hx:nthI L (((pre.length+1:Nat):Int) - 1)=x:=by
   have hb:0≤(((pre.length+1:Nat):Int) - 1)∧(((pre.length+1:Nat):Int) - 1) < (L.length:Int):=by rw [h];simp;omega
   have hg:=bT hb
   rw [show ((((pre.length+1:Nat):Int) - 1)).toNat=pre.length from by omega,h] at hg
   rw [h];simpa using hg.symm
  obtain ⟨h1,h2,h3⟩:=Gz hr
  have h2:=h2 (by omega)
  rw [hx] at h2
  have ih:=GA L l (pre++[x]) y (by rw [h];simp)
  rw [List.length_append,List.length_cons,List.length_nil,Nat.zero_add] at ih
  obtain ⟨i1,i2⟩:=ih h3
  refine ⟨fun z hz=>?_,List.pairwise_cons.2 ⟨fun z hz=>?_,i2⟩⟩
  ·rcases List.mem_cons.1 hz with rfl | hz
   ·exact h1
   ·exact i1 z hz
  ·rcases List.mem_cons.1 hz with rfl | hz
   ·exact h2
   ·have:=(List.pairwise_cons.1 i2).1 z hz;omega
theorem xT {l:List Version} (hs:smV l) (h:cy l=0):bh l=0:=by
 rw [je]
 unfold cy at h
 rw [Bool.cond_eq_ite] at h
 split at h
 ·omega
 ·next hl=>
  simp only [decide_eq_true_eq] at hl
  have key:(∀ y∈l,Jf y)∧l.Pairwise (fun a b=>a.No < b.No):=by
   cases l with
   | nil=>exact ⟨fun _ h=>(List.not_mem_nil h).elim,List.Pairwise.nil⟩
   | cons y l=>
    obtain ⟨h1,_,h3⟩:=Gz h
    obtain ⟨i1,i2⟩:=GA (y::l) l [] y rfl h3
    refine ⟨fun z hz=>?_,i2⟩
    rcases List.mem_cons.1 hz with rfl | hz
    ·exact h1
    ·exact i1 z hz
  refine ⟨by omega,fun v hv=>?_,key.2⟩
  have:=key.1 v hv
  obtain ⟨h1,h2,h3,h4⟩:=this
  exact ⟨by omega,by omega,h1,wh (hs.2 v hv) h4⟩
theorem th {α : Type} {R:α→Bool} {no:α→Int} {c:Int} (hc:c≠0):∀ (l:List α) (g:Int),prgChk R no c l g=0↔(∀ y∈l,R y=true∧g < no y)∧l.Pairwise (fun a b=>no a < no b)
 | [],g=>by simp [prgChk]
 | y::l,g=>by
  have ih:=th hc l (no y) (R:=R) (no:=no)
  simp only [prgChk,Bool.cond_eq_ite,Bool.or_eq_true,Bool.not_eq_true',decide_eq_true_eq]
  split
  ·next h=>simp only [hc,false_iff];rintro ⟨h1,_⟩;have:=h1 y (List.mem_cons_self ..);rcases h with h | h <;> simp_all;omega
  ·next h=>
   rw [ih]
   simp only [not_or,Bool.not_eq_false,Int.not_le] at h
   constructor
   ·rintro ⟨h1,h2⟩
    refine ⟨fun z hz=>?_,List.pairwise_cons.2 ⟨fun z hz=>(h1 z hz).2,h2⟩⟩
    rcases List.mem_cons.1 hz with rfl | hz
    ·exact h
    ·have:=h1 z hz;exact ⟨this.1,by omega⟩
   ·rintro ⟨h1,h2⟩
    obtain ⟨p1,p2⟩:=List.pairwise_cons.1 h2
    exact ⟨fun z hz=>⟨(h1 z (List.mem_cons_of_mem _ hz)).1,p1 z hz⟩,p2⟩
theorem officesP (l:List Appoint) (g:Int):cn.L1 cn.K1 l g=prgChk i8 (·.No) 150 l g:=by
 induction l generalizing g with
 | nil=>rfl
 | cons y l ih=>simp only [cn.L1,prgChk,ih]
theorem interestsP (l:List Interest) (g:Int):bJ.L1 bJ.K1 l g=prgChk ju (·.No) 290 l g:=by
 induction l generalizing g with
 | nil=>rfl
 | cons y l ih=>simp only [bJ.L1,prgChk,ih]
def stMap (t known:Int):List Interest→List (cp×Interest)→List (cp×Interest)
 | [],m=>m
 | y::l,m=>bif (decide (t < y.At)||decide (known < y.Known)) then stMap t known l m else bif ((!(mhas m (cp.mk y.Person y.Party y.Of)))||decide ((mgetD m (cp.mk y.Person y.Party y.Of) (Interest.mk 0 0 0 0 0 false false)).At≤y.At)) then stMap t known l (mput m (cp.mk y.Person y.Party y.Of) y) else stMap t known l m
theorem xk (t known:Int) (k:List (cp×Interest)→List Interest):∀ (l:List Interest) m,bO.L1 t known k l m=k (stMap t known l m)
 | [],m=>rfl
 | y::l,m=>by
  simp only [bO.L1,stMap,xk t known k l]
  cases (decide (t < y.At)||decide (known < y.Known)) <;> cases ((!(mhas m (cp.mk y.Person y.Party y.Of)))||decide ((mgetD m (cp.mk y.Person y.Party y.Of) (Interest.mk 0 0 0 0 0 false false)).At≤y.At)) <;> rfl
theorem zK {κ α : Type} [DecidableEq κ] (P:α→Prop) {z:α} (hz:P z) (x:κ):∀ (m:List (κ×α)),(∀ q∈m,P q.2)→P (mgetD m x z)
 | [],_=>hz
 | (k,v)::m,h=>by
  have ih:=zK P hz x m fun q hq=>h q (List.mem_cons_of_mem _ hq)
  unfold mgetD at ih ⊢
  unfold mget?
  split
  ·exact h (k,v) (List.mem_cons_self ..)
  ·exact ih
theorem pV (v:List (cp×Interest)):∀ l:List Interest,bp.L1 v [] l=l.filter fun y=>(!y.Gone)&&decide (mgetD v (cp.mk y.Person y.Party y.Of) (Interest.mk 0 0 0 0 0 false false)=y)
 | []=>rfl
 | y::l=>by
  simp only [bp.L1,List.filter_cons,pV v l]
  cases ((!y.Gone)&&decide (mgetD v (cp.mk y.Person y.Party y.Of) (Interest.mk 0 0 0 0 0 false false)=y)) <;> rfl
theorem rightH {hs:List (List Holder)} {n:Int} (h:ck hs n=true):∀ l∈hs,∀ y∈l,1≤y.Weight∧y.Weight≤64:=by
 have h3:∀ (k:List Int→Bool) (l:List Holder) (g:List Int),ck.L3 k l g=true→(∀ y∈l,1≤y.Weight∧y.Weight≤64)∧∃ g',k g'=true:=by
  intro k l
  induction l with
  | nil=>exact fun g h=>⟨fun _ h=>(List.not_mem_nil h).elim,g,h⟩
  | cons y l ih=>
   intro g h
   simp only [ck.L3,Bool.cond_eq_ite] at h
   split at h
   ·cases h
   ·next hc=>
    simp only [Bool.or_eq_true,decide_eq_true_eq,not_or] at hc
    obtain ⟨h1,h2⟩:=ih _ h
    refine ⟨fun z hz=>?_,h2⟩
    rcases List.mem_cons.1 hz with rfl | hz
    ·omega
    ·exact h1 z hz
 have h1:∀ (k:Bool) (l:List (List Holder)),ck.L1 k l=true→∀ m∈l,∀ y∈m,1≤y.Weight∧y.Weight≤64:=by
  intro k l
  induction l with
  | nil=>exact fun _ _ h=>(List.not_mem_nil h).elim
  | cons y l ih=>
   intro h m hm
   obtain ⟨h4,g',hg⟩:=h3 _ _ _ h
   simp only [Bool.cond_eq_ite] at hg
   split at hg
   ·cases hg
   ·rcases List.mem_cons.1 hm with rfl | hm
    ·exact h4
    ·exact ih hg m hm
 exact h1 _ hs h
theorem EV (q:aR) (o:Int):fd q o=(nthI q.holders o).filter fun y=>q.who.contains y.Person:=by
 have:∀ l:List Holder,bL.L1 q [] l=l.filter fun y=>q.who.contains y.Person:=by
  intro l
  induction l with
  | nil=>rfl
  | cons y l ih=>
   simp only [bL.L1,slices_BinarySearch_int,List.filter_cons,ih]
   cases q.who.contains y.Person <;> rfl
 exact this _
structure Lu (q q':aR):Prop where
 value:q'.value=q.value
 holders:q'.holders=q.holders
 who:∀ l∈q.holders,∀ y∈l,y.Person∈q.who→y.Person∈q'.who
 wt:∀ l∈q.holders,∀ y∈l,1≤y.Weight∧y.Weight≤64
 len:∀ l∈q.holders,l.length≤2000000
theorem JC {α : Type} [Inhabited α] {P:α→Prop} {l:List α} (h:∀ y∈l,P y) (hd:P default) (z:Int):P (nthI l z):=by
 by_cases hz:z.toNat < l.length
 ·have:nthI l z=l[z.toNat]:=by simp [nthI,List.getD_eq_getElem?_getD,hz]
  rw [this];exact h _ (List.getElem_mem _)
 ·have:nthI l z=default:=by simp [nthI,List.getD_eq_getElem?_getD,hz]
  rw [this];exact hd
def wsum (l:List Holder):Int:=(l.map (·.Weight)).sum
theorem Bl (k:Int→Bool):∀ (l:List Holder) (g:Int),0≤g→g+64 * l.length≤1000000000000→(∀ y∈l,1≤y.Weight∧y.Weight≤64)→ct.L1 k l g=k (g+wsum l)
 | [],g,_,_,_=>by simp [ct.L1,wsum]
 | y::l,g,h0,hb,h=>by
  have hy:=h y (List.mem_cons_self ..)
  rw [List.length_cons] at hb
  have e:IntKind.wrap .i64 (g+y.Weight)=g+y.Weight:=wrap64 (by omega)
  simp only [ct.L1,e]
  rw [Bl k l _ (by omega) (by omega) fun z hz=>h z (List.mem_cons_of_mem _ hz)]
  simp only [wsum,List.map_cons,List.sum_cons]
  rw [Int.add_assoc]
theorem In (rec:aR→Expr→Bool) (q:aR) (k:Int→Bool):∀ (l:List Expr) (g:Int),0≤g→g+l.length≤1000000000000→dl.L1 rec q k l g=k (g+(l.countP (rec q):Nat))
 | [],g,_,_=>by simp [dl.L1]
 | y::l,g,h0,hb=>by
  rw [List.length_cons] at hb
  have e:IntKind.wrap .i64 (g+1)=g+1:=wrap64 (by omega)
  simp only [dl.L1,e]
  rw [In rec q k l g h0 (by omega),In rec q k l (g+1) (by omega) (by omega),List.countP_cons]
  cases rec q y
  ·simp
  ·simp only [cond_true,if_true];congr 1;omega
theorem wW (f:Bool→Bool):∀ (l:List Bool) (i:Nat),decide (0≤dr.L1 f dr.K1 l i)=l.any f
 | [],i=>rfl
 | y::l,i=>by
  have ih:=wW f l (i+1)
  simp only [dr.L1,List.any_cons,Bool.cond_eq_ite]
  split
  ·next h=>rw [h];simp
  ·next h=>rw [ih];simp [h]
def decV (mode:Int) (l:List Bool):Bool:=bif mode==4 then l.any id else bif mode==3 then l.any id&&!(l.any fun b=>!b) else ((l.length:Int)==1)&&nthI l 0
theorem Hp (mode:Int) (l:List Bool):eP mode l=bif fm mode l != 0 then (false,fm mode l) else (decV mode l,0):=by
 have y1:decide (0≤bZ l dD)=l.any id:=wW _ l 0
 have y2:decide (0≤bZ l eJ)=l.any fun b=>!b:=wW _ l 0
 have L1:∀ (s:List Bool) i g,(aN.L1 (aN.K1 l) s i g).2=(l.any id,0):=by
  intro s
  induction s with
  | nil=>intro i g;simp only [aN.L1,aN.K1,y1]
  | cons y s ih=>intro i g;exact ih _ _
 have L2:∀ (s:List Bool) i g,(aN.L2 (aN.K2 l) s i g).2=(((l.length:Int)==1)&&nthI l 0,0):=by
  intro s
  induction s with
  | nil=>intro i g;rfl
  | cons y s ih=>intro i g;exact ih _ _
 have L3:∀ (s:List Bool) i g,(aN.L3 aN.K3 s i g).2=(false,0):=by
  intro s
  induction s with
  | nil=>intro i g;rfl
  | cons y s ih=>intro i g;exact ih _ _
 have e:eP mode l=(aN mode l).2:=rfl
 rw [e]
 unfold aN decV
 rw [y1,y2]
 cases (fm mode l != 0) with
 | true=>rfl
 | false=>
  simp only [cond_false]
  by_cases h4:mode=4
  ·subst h4
   cases h:l.any id with
   | true=>rfl
   | false=>
    have:((4:Int)==3)=false:=rfl
    simp only [beq_self_eq_true,Bool.and_false,cond_false,this,Bool.false_and,bne_self_eq_false,L3,cond_true]
  ·have e4:(mode==4)=false:=by simpa using h4
   have n4:(mode != 4)=true:=by simpa using h4
   rw [e4,n4]
   simp only [Bool.false_and,cond_false,cond_true]
   by_cases h3:mode=3
   ·subst h3
    cases h:l.any fun b=>!b with
    | true=>simp
    | false=>simp only [beq_self_eq_true,Bool.and_false,cond_false,L1,cond_true,Bool.not_false,Bool.and_true]
   ·have e3:(mode==3)=false:=by simpa using h3
    rw [e3]
    simp only [Bool.false_and,cond_false,L2]
theorem Cu (l:List Interest) (a b:Int):∃ p:Interest→Bool,bO l a b=l.filter p:=by
 have h1:∀ v (l:List Interest),bp.L1 v [] l=l.filter fun y=>(!y.Gone)&&decide (mgetD v (cp.mk y.Person y.Party y.Of) (Interest.mk 0 0 0 0 0 false false)=y):=by
  intro v l
  induction l with
  | nil=>rfl
  | cons y l ih=>
   simp only [bp.L1,List.filter_cons,ih]
   cases ((!y.Gone)&&decide (mgetD v (cp.mk y.Person y.Party y.Of) (Interest.mk 0 0 0 0 0 false false)=y)) <;> rfl
 have h2:∀ (k:List (cp×Interest)→List Interest) (l:List Interest) m,∃ m',bO.L1 a b k l m=k m':=by
  intro k l
  induction l with
  | nil=>exact fun m=>⟨m,rfl⟩
  | cons y l ih=>
   intro m
   simp only [bO.L1,Bool.cond_eq_ite]
   split
   ·exact ih _
   ·split
    ·exact ih _
    ·exact ih _
 obtain ⟨m',e⟩:=h2 (bO.K1 l) l []
 exact ⟨_,by unfold bO;rw [e];exact h1 m' l⟩
theorem Dv (l:List Interest) (a b:Int):(bO l a b).length≤l.length:=by
 obtain ⟨p,e⟩:=Cu l a b
 rw [e];exact List.length_filter_le _ _
theorem zI {α : Type} {k:Int} {v:α}:∀ {m:List (Int×α)},k∉m.map (·.1)→(mput m k v).length=m.length+1∧∀ p∈mput m k v,p=(k,v)∨p∈m
 | [],_=>by simp [mput]
 | (k',v')::m,hk=>by
  simp only [List.map_cons,List.mem_cons,not_or] at hk
  obtain ⟨h1,h2⟩:=zI (v:=v) hk.2
  simp only [mput,hk.1,if_false,List.length_cons,h1,List.mem_cons,true_and]
  rintro p (rfl | hp)
  ·exact .inr (.inl rfl)
  ·rcases h2 p hp with h | h
   ·exact .inl h
   ·exact .inr (.inr h)
theorem CW {st:List Interest} {m:List (Int×Bool)} {q:List fN} (hg:qp st m q) {k:Int} (h:mgetD m k false=false):k∉m.map (·.1):=by
 intro hk
 obtain ⟨⟨k',v⟩,hp,rfl⟩:=List.mem_map.1 hk
 have:∀ {m:List (Int×Bool)},(∀ p∈m,p.2=true)→k'∈m.map (·.1)→mgetD m k' false=true:=by
  intro m
  induction m with
  | nil=>intro _ h;simp at h
  | cons p m ih=>
   intro ha hm
   obtain ⟨a,b⟩:=p
   by_cases e:k'=a
   ·have:=ha (a,b) (List.mem_cons_self ..)
    simp only at this
    simp [mgetD,mget?,e,this]
   ·simp only [List.map_cons,List.mem_cons,e,false_or] at hm
    have:=ih (fun p hp=>ha p (List.mem_cons_of_mem _ hp)) hm
    simpa [mgetD,mget?,e] using this
 rw [this (fun p hp=>(hg.1 p hp).1) hk] at h
 cases h
theorem pF {st:List Interest} {m:List (Int×Bool)} {q:List fN} {w:fN} (hg:qp st m q) (hw:w.to∈st.map (·.Party)) (h8:w.path.length≤8):qp st (conPut w m q).1 (conPut w m q).2:=by
 unfold conPut
 cases h:mgetD m w.to false with
 | true=>exact hg
 | false=>
  obtain ⟨h1,h2⟩:=zI (v:=true) (CW hg h)
  refine ⟨fun p hp=>?_,?_,fun w' hw'=>?_⟩
  ·rcases h2 p hp with rfl | hp
   ·exact ⟨rfl,hw⟩
   ·exact hg.1 p hp
  ·show (q++[w]).length≤(mput m w.to true).length
   rw [h1,List.length_append];have:=hg.2.1;simp;omega
  ·rcases List.mem_append.1 (show w'∈q++[w] from hw') with hw' | hw'
   ·exact hg.2.2 w' hw'
   ·rw [List.mem_singleton.1 hw'];exact h8
theorem sV {st:List Interest} {m:List (Int×Bool)} {q:List fN} {k:Int} {cap:Nat} (hg:qp st m q) (hn:(m.map (·.1)).Nodup) (hk:k∈st.map (·.Party)) (hc:st.length≤cap) (h:mgetD m k false=false):q.length < cap:=by
 have h1:=CW hg h
 have h2:(k::m.map (·.1)).length≤(st.map (·.Party)).length:=tv (List.nodup_cons.2 ⟨h1,hn⟩) (fun x hx=>by
  rcases List.mem_cons.1 hx with rfl | hx
  ·exact hk
  ·obtain ⟨p,hp,rfl⟩:=List.mem_map.1 hx;exact (hg.1 p hp).2)
 simp only [List.length_cons,List.length_map] at h2
 have:=hg.2.1
 omega
theorem It {st:List Interest} {m:List (Int×Bool)} {q:List fN} (hg:qp st m q) (hn:(m.map (·.1)).Nodup):m.length≤st.length:=by
 have:=tv (b:=st.map (·.Party)) hn (fun x hx=>by obtain ⟨p,hp,rfl⟩:=List.mem_map.1 hx;exact (hg.1 p hp).2)
 simpa using this
theorem C8 {m:List (Int×Bool)} {q:List fN} {w:fN} (hn:(m.map (·.1)).Nodup):((conPut w m q).1.map (·.1)).Nodup:=by
 unfold conPut
 cases mgetD m w.to false with
 | true=>exact hn
 | false=>exact jt _ _ hn
theorem EQ {st:List Interest} {m:List (Int×Bool)} {q:List fN} {w:fN} {N:Nat} (hg:qp st m q) (hn:(m.map (·.1)).Nodup) (hw:w.to∈st.map (·.Party)) (hN:st.length≤N):
  (conPut w m q).2.length+(N - (conPut w m q).1.length)≤q.length+(N - m.length):=by
 unfold conPut
 cases h:mgetD m w.to false with
 | true=>simp
 | false=>
  obtain ⟨h1,_⟩:=zI (v:=true) (CW hg h)
  have h2:qp st (mput m w.to true) []:=by
   have:=pF (w:=⟨[],w.to⟩) (q:=[]) (st:=st) (m:=m) ⟨hg.1,Nat.zero_le _,fun _ h=>(List.not_mem_nil h).elim⟩ hw (by simp)
   simp only [conPut,h,cond_false] at this
   exact ⟨this.1,Nat.zero_le _,fun _ h=>(List.not_mem_nil h).elim⟩
  have h3:=It h2 (jt w.to true hn)
  show (q++[w]).length+(N - (mput m w.to true).length)≤_
  rw [h1] at h3
  rw [h1,List.length_append]
  simp;omega
theorem qS {α : Type} (m:List (Int×α)) (k j:Int) (v z:α):mgetD (mput m k v) j z=if j=k then v else mgetD m j z:=by
 induction m with
 | nil=>by_cases h:j=k <;> simp [mput,mgetD,mget?,h]
 | cons p m ih=>
  obtain ⟨a,b⟩:=p
  by_cases h:k=a
  ·subst h
   by_cases h2:j=k <;> simp [mput,mgetD,mget?,h2]
  ·by_cases h2:j=a
   ·subst h2
    have:¬ j=k:=fun e=>h e.symm
    simp [mput,h,mgetD,mget?,this]
   ·simp only [mgetD] at ih ⊢
    simp only [mput,h,if_false,mget?,h2]
    exact ih
theorem GH.put {st:List Interest} {f:List (Int×List Interest)} (hf:GH st f) {k:Int} {x:Interest} (hx:x∈st):GH st (mput f k (mgetD f k []++[x])):=by
 intro j y hy
 rw [qS] at hy
 split at hy
 ·rcases List.mem_append.1 hy with hy | hy
  ·exact hf k y hy
  ·rw [List.mem_singleton.1 hy];exact hx
 ·exact hf j y hy
theorem tj {α : Type} (A B:List α) (x y:α):(A++x::y::B).Perm (y::x::(A++B)):=
 List.perm_middle.trans ((List.Perm.cons x List.perm_middle).trans (List.Perm.swap y x _))
theorem we {st:List Interest} {path:List Int} {N:Nat} (hN:st.length≤N) (h8:path.length+1≤8):∀ {xs:List Interest} {m:List (Int×Bool)} {q:List fN},(∀ x∈xs,x∈st)→qp st m q→(m.map (·.1)).Nodup →
  (conStep path xs m q).2.length+(N - (conStep path xs m q).1.length)≤q.length+(N - m.length)
 | [],m,q,_,_,_=>Nat.le_refl _
 | x::xs,m,q,hx,hg,hn=>by
  have hp:(fN.mk (path++[x.No]) x.Party).to∈st.map (·.Party):=List.mem_map_of_mem (hx x (List.mem_cons_self ..))
  have h1:=EQ (w:=⟨path++[x.No],x.Party⟩) hg hn hp hN
  have h2:=we (path:=path) hN h8 (xs:=xs) (fun y hy=>hx y (List.mem_cons_of_mem _ hy)) (pF hg hp (by simpa using h8)) (C8 hn)
  simp only [conStep]
  exact Nat.le_trans h2 h1
theorem CU {help:List Int} {fr i:Nat} {S:List Int} (h1:fr≤i) (h2:i < help.length) (h:S.Sublist (help.drop (i+1))):(nthI help (i:Int)::S).Sublist (help.drop fr):=by
 have e:help.drop i=nthI help (i:Int)::help.drop (i+1):=by
  rw [List.drop_eq_getElem_cons h2,iE (List.getElem?_eq_getElem h2)]
 have:(nthI help (i:Int)::S).Sublist (help.drop i):=by rw [e];exact h.cons_cons _
 have e2:help.drop i=(help.drop fr).drop (i - fr):=by rw [List.drop_drop];congr 1;omega
 rw [e2] at this
 exact this.trans (List.drop_sublist _ _)
theorem Gb (k:List (Int×Bool)→List Int):∀ (l:List Holder) (m:List (Int×Bool)),az.L7 k l m=k (l.foldl (fun m y=>mput m y.Person true) m)
 | [],m=>rfl
 | y::l,m=>by simp only [az.L7,Gb k l,List.foldl]
theorem Gc (k:List (Int×Bool)→List Int):∀ (l:List (List Holder)) (m:List (Int×Bool)),az.L5 k l m=k (l.flatten.foldl (fun m y=>mput m y.Person true) m)
 | [],m=>rfl
 | y::l,m=>by simp only [az.L5,Gb,Gc k l,List.flatten_cons,List.foldl_append]
theorem C1 (q:aC) (t:Int) (k:List (Int×Bool)→List Int):∀ (l:List Policy) (m:List (Int×Bool)),az.L1 q t k l m=k ((l.flatMap fun p=>(ar q p t).flatten).foldl (fun m y=>mput m y.Person true) m)
 | [],m=>rfl
 | y::l,m=>by simp only [az.L1,Gc,C1 q t k l,List.flatMap_cons,List.foldl_append]
theorem B4 (q:aC) (person t:Int):(az q person t).Pairwise (· < ·):=by
 unfold az
 rw [Bool.cond_eq_ite]
 split
 ·exact List.Pairwise.nil
 ·rw [C1]
  unfold az.K1
  refine pU (jw _) ((gS _).nodup_iff.2 ?_)
  exact (uU (fun y:Holder=>y.Person) _ [] List.nodup_nil).sublist ((vI person _).map _)
theorem BX (k:Int):∀ {m:List (Int×Bool)},(m.map (·.1)).Nodup→∀ x,x∈(mdel m k).map (·.1)↔x∈m.map (·.1)∧x≠k
 | [],_,x=>by simp [mdel]
 | (k',v')::m,hn,x=>by
  rw [List.map_cons,List.nodup_cons] at hn
  have ih:=BX k hn.2 x
  simp only [mdel]
  split
  ·next e=>
   subst e
   simp only [List.map_cons,List.mem_cons]
   constructor
   ·intro h;exact ⟨.inr h,fun e=>hn.1 (by rw [e] at h;exact h)⟩
   ·rintro ⟨h | h,hx⟩
    ·exact absurd h hx
    ·exact h
  ·next e=>
   simp only [List.map_cons,List.mem_cons,ih]
   constructor
   ·rintro (h | ⟨h1,h2⟩)
    ·exact ⟨.inl h,fun g=>e (by rw [← g,h])⟩
    ·exact ⟨.inr h1,h2⟩
   ·rintro ⟨h | h,hx⟩
    ·exact .inl h
    ·exact .inr ⟨h,hx⟩
theorem zY {q:aC} {person t:Int} (ht:¬ t < q.doc.At) (x:Int):x∈az q person t↔(∃ p∈(aw q t).1,∃ l∈ar q p t,∃ y∈l,x=y.Person)∧x≠person:=by
 unfold az
 rw [Bool.cond_eq_ite,if_neg (by simpa using ht),C1]
 unfold az.K1
 rw [(gS _).mem_iff]
 have:=BX person (uU (fun y:Holder=>y.Person) ((aw q t).1.flatMap fun p=>(ar q p t).flatten) [] List.nodup_nil) x
 rw [show List.map Prod.fst (mdel (List.foldl (fun m y=>mput m y.Person true) [] ((aw q t).1.flatMap fun p=>(ar q p t).flatten)) person)=(mdel (List.foldl (fun m y=>mput m y.Person true) [] ((aw q t).1.flatMap fun p=>(ar q p t).flatten)) person).map (·.1) from rfl,this,Cj (fun y:Holder=>y.Person)]
 simp only [List.map_nil,List.not_mem_nil,false_or,List.mem_flatMap,List.mem_flatten]
 constructor
 ·rintro ⟨⟨y,⟨p,hp,l,hl,hy⟩,e⟩,h⟩;exact ⟨⟨p,hp,l,hl,y,hy,e⟩,h⟩
 ·rintro ⟨⟨p,hp,l,hl,y,hy,e⟩,h⟩;exact ⟨⟨y,⟨p,hp,l,hl,hy⟩,e⟩,h⟩
theorem Iz (q:aC) (person t:Int):person∉az q person t:=by
 by_cases ht:t < q.doc.At
 ·unfold az
  rw [Bool.cond_eq_ite,if_pos (by simpa using ht)]
  exact List.not_mem_nil
 ·rw [zY ht];exact fun h=>h.2 rfl
theorem vw:∀ {a b:List Int},a.Pairwise (· < ·)→b.Pairwise (· < ·)→(∀ x∈a,x∈b)→a.Sublist b
 | [],b,_,_,_=>List.nil_sublist _
 | x::a,[],_,_,h=>absurd (h x (List.mem_cons_self ..)) List.not_mem_nil
 | x::a,y::b,ha,hb,h=>by
  obtain ⟨a1,a2⟩:=List.pairwise_cons.1 ha
  obtain ⟨b1,b2⟩:=List.pairwise_cons.1 hb
  by_cases e:x=y
  ·subst e
   refine (vw a2 b2 fun z hz=>?_).cons_cons _
   rcases List.mem_cons.1 (h z (List.mem_cons_of_mem _ hz)) with g | g
   ·have:=a1 z hz;omega
   ·exact g
  ·refine (vw ha b2 fun z hz=>?_).cons _
   rcases List.mem_cons.1 (h z hz) with g | g
   ·have hy:y < x:=by
     rcases List.mem_cons.1 (h x (List.mem_cons_self ..)) with g2 | g2
     ·exact absurd g2 e
     ·exact b1 x g2
    rcases List.mem_cons.1 hz with g3 | g3
    ·omega
    ·have:=a1 z g3;omega
   ·exact g
theorem gO (l:List Int) (n:Int):(dx l n).length≤l.length+1:=by
 have key:∀ (s:List Int) (i:Nat),(dx.L1 n (dx.K1 l n) s i).length≤l.length+1:=by
  have hk:∀ i,(dx.K1 l n i).length≤l.length+1:=by
   intro i
   unfold dx.K1
   rw [Bool.cond_eq_ite]
   split
   ·omega
   ·simp only [List.length_append,List.length_take,List.length_drop,List.length_cons,List.length_nil];omega
  intro s
  induction s with
  | nil=>exact hk
  | cons y s ih=>
   intro i
   simp only [dx.L1,Bool.cond_eq_ite]
   split
   ·exact ih _
   ·exact hk _
 exact key l 0
theorem iX (l:List Int) (n:Int):(cd l n).length≤l.length+1:=by
 have key:∀ (s:List Int) (i:Nat),(cd.L1 n (cd.K1 l n) s i).length≤l.length+1:=by
  have hk:∀ i,(cd.K1 l n i).length≤l.length+1:=by
   intro i
   unfold cd.K1
   rw [Bool.cond_eq_ite]
   split
   ·omega
   ·simp only [List.length_append,List.length_take,List.length_drop,List.length_cons,List.length_nil];omega
  intro s
  induction s with
  | nil=>exact hk
  | cons y s ih=>
   intro i
   simp only [cd.L1,Bool.cond_eq_ite]
   split
   ·exact ih _
   ·exact hk _
 exact key l 0
theorem CE (l:List Version) (a b c:Int):(bj l a b c).length≤l.length+1:=by
 have k1:∀ (s:List Version) (g:List Int),(bj.L1 l a b c bj.K1 s g).length≤g.length+s.length:=by
  intro s
  induction s with
  | nil=>intro g;simp [bj.L1,bj.K1]
  | cons y s ih=>
   intro g
   simp only [bj.L1,Bool.cond_eq_ite,List.length_cons]
   split
   ·have h1:=gO g ((nthI l (av l y.At c)).No)
    have h2:=ih (dx g ((nthI l (av l y.At c)).No))
    omega
   ·have:=ih g;omega
 have k2:∀ (s:List Version) (g:List Int),(bj.L2 l a b c bj.K2 s g).length≤g.length+s.length:=by
  intro s
  induction s with
  | nil=>intro g;simp [bj.L2,bj.K2]
  | cons y s ih=>
   intro g
   simp only [bj.L2,Bool.cond_eq_ite,List.length_cons]
   split
   ·have h1:=gO g ((nthI l (av l y.At c)).No)
    have h2:=ih (dx g ((nthI l (av l y.At c)).No))
    omega
   ·have:=ih g;omega
 unfold bj
 rw [Bool.cond_eq_ite]
 split
 ·have h1:=k1 l (dx [] ((nthI l (av l a c)).No))
  have h2:=gO [] ((nthI l (av l a c)).No)
  simp only [List.length_nil] at h2;omega
 ·have:=k2 l []
  simp only [List.length_nil] at this;omega
theorem xw (l:List Version) (a b c:Int):(cN l a b c).1.length≤l.length+1:=by
 have:=CE l a b c
 unfold cN
 simp only [Bool.cond_eq_ite]
 repeat' split
 all_goals first
  | exact this
  | (simp only [List.length_nil,List.length_cons];omega)
theorem qM (l:List Appoint) (a b c:Int):(bu l a b c).1.length≤64:=by
 have k1:∀ (s:List Nat) (i:Nat) (g:List Holder),(bu.L1 l a b c bu.K1 s i g).1.length≤g.length+s.length:=by
  intro s
  induction s with
  | nil=>intro i g;simp [bu.L1,bu.K1]
  | cons y s ih=>
   intro i g
   simp only [bu.L1,Bool.cond_eq_ite,List.length_cons]
   split
   ·refine Nat.le_trans (ih _ _) ?_
    simp only [List.length_append,List.length_cons,List.length_nil];omega
   ·have:=ih (i+1) g;omega
 unfold bu
 simp only [Bool.cond_eq_ite]
 repeat' split
 ·exact Nat.zero_le _
 ·exact Nat.zero_le _
 ·have:=k1 (List.range 64) 0 []
  simp only [List.length_range,List.length_nil] at this;omega
theorem zf {r:Register} (h:okV r.Versions) (no:Int):(aV r no).Policy.Offices.length≤32:=by
 unfold aV
 rcases ll no r.Versions aV.K1 with e | e
 ·rw [e];exact Nat.zero_le _
 ·exact (h.2 _ e).1.2
theorem wL (P:Appoint→Prop) (key:Appoint→OSeat×Bool) (later:Appoint→Appoint→Bool):∀ (l:List Appoint) m,(∀ y∈l,P y)→(∀ q∈m,P q.2)→∀ q∈bG.L1 key later bG.K1 l m,P q.2
 | [],m,_,hm=>hm
 | y::l,m,hl,hm=>by
  have hl':=fun z hz=>hl z (List.mem_cons_of_mem y hz)
  simp only [bG.L1,Bool.cond_eq_ite]
  split
  ·refine wL P key later l _ hl' fun q hq=>?_
   rcases tw hq with rfl | hq
   ·exact hl y (List.mem_cons_self ..)
   ·exact hm q hq
  ·exact wL P key later l m hl' hm
theorem AJ {l:List Appoint} {o t known:Int} (h:cn l=0):∀ y∈(dh l o t known).1,0≤y.Person∧y.Person < 64:=by
 have hl:∀ y∈l,0≤y.Person∧y.Person < 64:=by
  unfold cn at h
  rw [officesP,Bool.cond_eq_ite] at h
  split at h
  ·omega
  ·intro y hy
   have:=(((th (by omega) l (-1)).1 h).1 y hy).1
   unfold i8 at this
   rw [Bool.cond_eq_ite] at this
   split at this <;> simp only [Bool.and_eq_true,fD,dv,decide_eq_true_eq] at this <;> omega
 unfold dh
 rw [h]
 simp only [bne_self_eq_false,cond_false]
 cases hc:(((!(eN o))||(!(db t)))||(!(db known))) with
 | true=>exact fun _ h=>(List.not_mem_nil h).elim
 | false=>
  rw [cond_false,sW]
  intro y hy
  unfold fW bA bA.K1 at hy
  rw [m7] at hy
  obtain ⟨s,_,hs⟩:=List.mem_filterMap.1 hy
  have hv:=zK (fun a:Appoint=>0≤a.Person∧a.Person < 64) (z:=Appoint.mk 0 0 0 0 0 0 false) (by decide) s (em l t known) (wL _ _ _ l [] hl (fun _ h=>(List.not_mem_nil h).elim))
  rw [Bool.cond_eq_ite] at hs
  split at hs
  ·cases hs
  ·rw [← Option.some.inj hs];exact hv
theorem wV (so:Bool):∀ (l:List Bool) (i:Nat),decide (eu.L1 so eu.K1 l i < 0)=!(l.any fun b=>b==so)
 | [],i=>rfl
 | y::l,i=>by
  have ih:=wV so l (i+1)
  simp only [eu.L1,List.any_cons,Bool.cond_eq_ite]
  split
  ·next h=>rw [h,Bool.true_or];simp
  ·next h=>rw [ih,Bool.eq_false_iff.2 h,Bool.false_or]
theorem Hf (so:Bool) (l:List Bool):decide (0≤eu l so)=l.any fun b=>b==so:=by
 have h:=wV so l 0
 have e:decide (0≤eu l so)=!(decide (eu l so < 0)):=by
  rw [Bool.eq_iff_iff];simp only [decide_eq_true_eq,Bool.not_eq_true',decide_eq_false_iff_not];omega
 rw [e]
 show (!(decide (eu.L1 so eu.K1 l 0 < 0)))=_
 rw [h,Bool.not_not]
theorem decide27 (mode:Int) (l:List Bool):iy mode l=eP mode l:=by
 rw [Hp]
 have hE:jS mode l=fm mode l:=by
  unfold jS fm
  by_cases hm:1≤mode∧mode≤4
  ·have h1:(decide (mode < 1)||decide (4 < mode))=false:=by simp;omega
   have h2:mhas gN mode=true:=by
    have:mode=1∨mode=2∨mode=3∨mode=4:=by omega
    rcases this with rfl | rfl | rfl | rfl <;> rfl
   rw [h1,h2];rfl
  ·have h1:(decide (mode < 1)||decide (4 < mode))=true:=by
    simp only [Bool.or_eq_true,decide_eq_true_eq];omega
   have h2:mhas gN mode=false:=by
    have n1:¬ mode=1:=by omega
    have n2:¬ mode=2:=by omega
    have n3:¬ mode=3:=by omega
    have n4:¬ mode=4:=by omega
    simp [mhas,gN,mput,mget?,n1,n2,n3,n4]
   rw [h1,h2];rfl
 unfold iy
 rw [hE]
 congr 1
 congr 1
 unfold jD decV
 have a1:(l.any fun b=>b==true)=l.any id:=by congr 1;funext b;cases b <;> rfl
 have a2:(l.any fun b=>b==false)=l.any fun b=>!b:=by congr 1;funext b;cases b <;> rfl
 have f1:=wV false l 0
 rw [show eu.L1 false eu.K1 l 0=eu l false from rfl,a2] at f1
 rw [f1,Hf,a1]
 by_cases h3:mode=3
 ·subst h3
  have hl:(decide (0 < (l.length:Int))&&!(l.any fun b=>!b))=(l.any id&&!(l.any fun b=>!b)):=by
   cases l with
   | nil=>rfl
   | cons b l=>cases b <;> simp
  exact hl
 ·have e3:(mode==3)=false:=by simpa using h3
  rw [e3]
  simp only [cond_false]
theorem has21 (n:Int):∀ l:List Int,ie l n=l.contains n
 | []=>rfl
 | y::l=>by
  have ih:=has21 n l
  unfold ie at ih ⊢
  simp only [ie.L1,List.contains_cons,ih,Bool.cond_eq_ite]
  split
  ·next h=>rw [show (n==y)=true from by simp only [beq_iff_eq] at h ⊢;exact h.symm,Bool.true_or]
  ·next h=>rw [show (n==y)=false from by simp only [beq_iff_eq] at h;simp;exact fun e=>h e.symm,Bool.false_or]
theorem EH (who:List Int) (k:Int→Bool) (b:Bool) (hk:∀ g,k g=b):∀ (l:List Holder) (g:Int),bd.L1 who k l g=((l.any fun y=>who.contains y.Person)||b)
 | [],g=>by simp [bd.L1,hk]
 | y::l,g=>by
  have ih:=EH who k b hk l
  simp only [bd.L1,has21,Bool.and_true,List.any_cons]
  cases who.contains y.Person <;> simp [ih]
theorem uT (who:List Int) (k:Int→Bool):∀ (l:List Holder) (g:Int),0≤g→g+64 * l.length≤1000000000000→(∀ y∈l,1≤y.Weight∧y.Weight≤64)→bd.L3 who k l g=k (g+wsum (l.filter fun y=>who.contains y.Person))
 | [],g,_,_,_=>by simp [bd.L3,wsum]
 | y::l,g,h0,hb,h=>by
  have hy:=h y (List.mem_cons_self ..)
  have hl:=fun z hz=>h z (List.mem_cons_of_mem y hz)
  rw [List.length_cons] at hb
  have e:IntKind.wrap .i64 (g+y.Weight)=g+y.Weight:=wrap64 (by omega)
  simp only [bd.L3,has21,Bool.and_false,cond_false,e,List.filter_cons]
  cases who.contains y.Person with
  | true=>
   simp only [cond_true,if_true]
   rw [uT who k l _ (by omega) (by omega) hl]
   simp only [wsum,List.map_cons,List.sum_cons]
   rw [Int.add_assoc]
  | false=>
   simp only [cond_false,Bool.false_eq_true,if_false]
   rw [uT who k l _ h0 (by omega) hl]
theorem Fu (rec:Expr→Int→List (List Holder)→List Int→Bool) (v:Int) (hs:List (List Holder)) (w:List Int) (k:Int→Bool):∀ (l:List Expr) (g:Int),0≤g→g+l.length≤1000000000000→bd.L4 rec v hs w k l g=k (g+(l.countP fun y=>rec y v hs w:Nat))
 | [],g,_,_=>by simp [bd.L4]
 | y::l,g,h0,hb=>by
  rw [List.length_cons] at hb
  have e:IntKind.wrap .i64 (g+1)=g+1:=wrap64 (by omega)
  simp only [bd.L4,e]
  rw [Fu rec v hs w k l g h0 (by omega),Fu rec v hs w k l (g+1) (by omega) (by omega),List.countP_cons]
  cases rec y v hs w
  ·simp
  ·simp only [cond_true,if_true];congr 1;omega
theorem fulfil21 {v:Int} {hs:List (List Holder)} {w:List Int} {n:Int} (hw:∀ l∈hs,∀ y∈l,1≤y.Weight∧y.Weight≤64) (hl:∀ l∈hs,l.length≤2000000):∀ (m:Nat) (x:Expr),x.dep≤2000000→OkX n x→bd.go m x v hs w=co.go m ⟨v,hs,w⟩ x
 | 0,x,_,_=>rfl
 | m+1,x,hd,ho=>by
  have ih:=fulfil21 (v:=v) (w:=w) (n:=n) hw hl m
  have hk:=ho.kind
  have hH:(∀ y∈nthI hs x.No,1≤y.Weight∧y.Weight≤64)∧(nthI hs x.No).length≤2000000:=JC (P:=fun l:List Holder=>(∀ y∈l,1≤y.Weight∧y.Weight≤64)∧l.length≤2000000) (fun l hl2=>⟨hw l hl2,hl l hl2⟩) ⟨(fun _ h=>(List.not_mem_nil h).elim),Nat.zero_le _⟩ x.No
  have hc:x.Kind=1∨x.Kind=2∨x.Kind=3∨x.Kind=4:=by omega
  simp only [bd.go,bd.F,co.go,co.F,fulQ]
  rcases hc with e | e | e | e
  ·rw [e]
   simp only [beq_self_eq_true,cond_true,if_true]
   rw [EH w _ false (fun g=>by simp [bd.K1,e]),Bool.or_false]
   unfold cH
   rw [EV]
   show ((nthI hs x.No).any fun y=>w.contains y.Person)=cH.L1 cH.K1 ((nthI hs x.No).filter fun y=>w.contains y.Person) false
   cases hf:(nthI hs x.No).filter fun y=>w.contains y.Person with
   | nil=>
    rw [List.filter_eq_nil_iff] at hf
    rw [List.any_eq_false.2 hf];rfl
   | cons y l=>
    have hy:y∈(nthI hs x.No).filter fun y=>w.contains y.Person:=by rw [hf];exact List.mem_cons_self ..
    obtain ⟨h1,h2⟩:=List.mem_filter.1 hy
    rw [List.any_eq_true.2 ⟨y,h1,h2⟩];rfl
  ·rw [e]
   have n1:((2:Int)==1)=false:=rfl
   simp only [n1,beq_self_eq_true,cond_true,cond_false,show ¬ (2:Int)=1 from by decide,if_true,if_false]
   unfold ct
   rw [EV,uT w _ _ _ (Int.le_refl _) (by omega) hH.1]
   have h1:=List.length_filter_le (fun y:Holder=>w.contains y.Person) (nthI hs x.No)
   rw [Bl _ _ _ (Int.le_refl _) (by show (0:Int)+64 * ((List.filter (fun y:Holder=>w.contains y.Person) (nthI hs x.No)).length:Nat)≤_;omega) fun y hy=>hH.1 y (List.mem_filter.1 hy).1]
   rfl
  ·rw [e]
   have n1:((3:Int)==1)=false:=rfl
   have n2:((3:Int)==2)=false:=rfl
   simp only [n1,n2,beq_self_eq_true,cond_true,cond_false,show ¬ (3:Int)=1 from by decide,show ¬ (3:Int)=2 from by decide,if_true,if_false]
   unfold dl.F
   have hln:=Expr.Fj x
   rw [Fu _ _ _ _ _ _ _ (Int.le_refl _) (by omega),In _ _ _ _ _ (Int.le_refl _) (by omega)]
   have:(x.L.countP fun y=>bd.go m y v hs w)=x.L.countP (co.go m ⟨v,hs,w⟩):=List.countP_congr fun y hy=>by rw [ih y (by have:=Expr.gj hy;omega) (ho.sub y hy)]
   rw [this];rfl
  ·rw [e]
   have n1:((4:Int)==1)=false:=rfl
   have n2:((4:Int)==2)=false:=rfl
   have n3:((4:Int)==3)=false:=rfl
   simp only [n1,n2,n3,cond_true,cond_false,show ¬ (4:Int)=1 from by decide,show ¬ (4:Int)=2 from by decide,show ¬ (4:Int)=3 from by decide,if_true,if_false]
   unfold gX.F
   have h2:=ho.two e
   have m0:nthI x.L 0∈x.L:=fw (by omega)
   have m1:nthI x.L 1∈x.L:=fw (by omega)
   rw [ih _ (by have:=Expr.gj m0;omega) (ho.sub _ m0),ih _ (by have:=Expr.gj m1;omega) (ho.sub _ m1)]
theorem uN {α : Type} (f:α→Int):∀ {a b:List α},a.Pairwise (fun x y=>f x < f y)→b.Pairwise (fun x y=>f x < f y)→(∀ x,x∈a↔x∈b)→a=b
 | [],[],_,_,_=>rfl
 | [],y::b,_,_,h=>absurd ((h y).2 (List.mem_cons_self ..)) List.not_mem_nil
 | x::a,[],_,_,h=>absurd ((h x).1 (List.mem_cons_self ..)) List.not_mem_nil
 | x::a,y::b,ha,hb,h=>by
  obtain ⟨a1,a2⟩:=List.pairwise_cons.1 ha
  obtain ⟨b1,b2⟩:=List.pairwise_cons.1 hb
  have e:x=y:=by
   rcases List.mem_cons.1 ((h x).1 (List.mem_cons_self ..)) with e | h1
   ·exact e
   ·rcases List.mem_cons.1 ((h y).2 (List.mem_cons_self ..)) with e | h2
    ·exact e.symm
    ·have:=a1 y h2;have:=b1 x h1;omega
  subst e
  congr 1
  refine uN f a2 b2 fun z=>⟨fun hz=>?_,fun hz=>?_⟩
  ·rcases List.mem_cons.1 ((h z).1 (List.mem_cons_of_mem _ hz)) with e | h1
   ·subst e;have:=a1 z hz;omega
   ·exact h1
  ·rcases List.mem_cons.1 ((h z).2 (List.mem_cons_of_mem _ hz)) with e | h1
   ·subst e;have:=b1 z hz;omega
   ·exact h1
def lastA (t known:Int) (s:OSeat) (acc:Option Appoint) (y:Appoint):Option Appoint:=
 bif (decide (y.At≤t)&&decide (y.Known≤known))&&((y.Office==s.office)&&(y.Person==s.person)) then (match acc with
  | none=>some y
  | some a=>bif decide (a.At≤y.At) then some y else some a) else acc
theorem Ej (t known:Int) (s:OSeat):∀ (l:List Appoint) (m:List (OSeat×Appoint)),mget? (bG.L1 (fun ed=>e6 ed t known) e5 bG.K1 l m) s=l.foldl (lastA t known s) (mget? m s)
 | [],m=>rfl
 | y::l,m=>by
  have ih:=Ej t known s l
  simp only [bG.L1,List.foldl_cons]
  rw [Bool.cond_eq_ite]
  have hkey:(e6 y t known).1=OSeat.mk y.Office y.Person:=rfl
  have hcnt:(e6 y t known).2=(decide (y.At≤t)&&decide (y.Known≤known)):=rfl
  rw [hkey,hcnt]
  by_cases hs:s=OSeat.mk y.Office y.Person
  ·subst hs
   have e1:((y.Office==(OSeat.mk y.Office y.Person).office)&&(y.Person==(OSeat.mk y.Office y.Person).person))=true:=by simp
   cases hc:(decide (y.At≤t)&&decide (y.Known≤known)) with
   | false=>
    rw [if_neg (by simp),ih]
    congr 1
    simp only [lastA,hc,Bool.false_and,cond_false]
   | true=>
    cases hm:mget? m (OSeat.mk y.Office y.Person) with
    | none=>
     have h1:mhas m (OSeat.mk y.Office y.Person)=false:=by unfold mhas;rw [hm];rfl
     rw [h1,if_pos (by simp),ih,jO,if_pos rfl]
     congr 1
     simp only [lastA,hc,e1,Bool.and_true,cond_true]
    | some a=>
     have h1:mhas m (OSeat.mk y.Office y.Person)=true:=by unfold mhas;rw [hm];rfl
     have h2:mgetD m (OSeat.mk y.Office y.Person) (Appoint.mk 0 0 0 0 0 0 false)=a:=by unfold mgetD;rw [hm];rfl
     rw [h1,h2]
     by_cases ha:a.At≤y.At
     ·have h3:e5 a y=false:=by simp [e5];omega
      rw [h3,if_pos (by simp),ih,jO,if_pos rfl]
      congr 1
      have:decide (a.At≤y.At)=true:=by simpa using ha
      simp only [lastA,hc,e1,Bool.and_true,cond_true,this]
     ·have h3:e5 a y=true:=by simp [e5];omega
      rw [h3,if_neg (by simp),ih,hm]
      congr 1
      have:decide (a.At≤y.At)=false:=by simpa using ha
      simp only [lastA,hc,e1,Bool.and_true,cond_true,this,cond_false]
  ·have e1:((y.Office==s.office)&&(y.Person==s.person))=false:=by
    rw [Bool.eq_false_iff]
    intro h
    simp only [Bool.and_eq_true,beq_iff_eq] at h
    exact hs (by cases s;simp only at h;rw [h.1,h.2])
   have e2:lastA t known s (mget? m s) y=mget? m s:=by simp only [lastA,e1,Bool.and_false,cond_false]
   rw [e2]
   split
   ·rw [ih,jO,if_neg hs]
   ·rw [ih]
theorem last15 {L:List Appoint} (o p t known:Int):∀ (l pre:List Appoint) (g:Int) (acc:Option Appoint),L=pre++l→(g < 0∧acc=none∨0≤g∧acc=some (nthI L g)) →
  (cz.L1 L o p t known cz.K1 l pre.length g < 0∧l.foldl (lastA t known ⟨o,p⟩) acc=none)∨(0≤cz.L1 L o p t known cz.K1 l pre.length g∧l.foldl (lastA t known ⟨o,p⟩) acc=some (nthI L (cz.L1 L o p t known cz.K1 l pre.length g)))
 | [],pre,g,acc,_,h=>h
 | y::l,pre,g,acc,hL,h=>by
  have hx:nthI L (pre.length:Int)=y:=iE (by rw [hL];simp)
  have ih:=fun (g':Int) (acc':Option Appoint)=>last15 (L:=L) o p t known l (pre++[y]) g' acc' (by rw [hL];simp)
  rw [List.length_append,List.length_cons,List.length_nil,Nat.zero_add] at ih
  simp only [cz.L1,List.foldl_cons,iA]
  have ec:(((y.Office==o)&&(y.Person==p))&&(decide (y.At≤t)&&decide (y.Known≤known)))=((decide (y.At≤t)&&decide (y.Known≤known))&&((y.Office==o)&&(y.Person==p))):=Bool.and_comm _ _
  rw [ec]
  cases hc:((decide (y.At≤t)&&decide (y.Known≤known))&&((y.Office==o)&&(y.Person==p))) with
  | false=>
   rw [Bool.false_and,cond_false]
   have:lastA t known ⟨o,p⟩ acc y=acc:=by simp only [lastA,hc,cond_false]
   rw [this]
   exact ih g acc h
  | true=>
   rw [Bool.true_and]
   rcases h with ⟨h1,h2⟩ | ⟨h1,h2⟩
   ·have e1:(decide (g < 0)||decide ((nthI L g).At≤y.At))=true:=by simp [h1]
    rw [e1,cond_true]
    subst h2
    have:lastA t known ⟨o,p⟩ none y=some y:=by simp only [lastA,hc,cond_true]
    rw [this]
    exact ih _ _ (.inr ⟨by omega,by rw [hx]⟩)
   ·subst h2
    have e0:decide (g < 0)=false:=by simp;omega
    rw [e0,Bool.false_or]
    cases ha:decide ((nthI L g).At≤y.At) with
    | true=>
     rw [cond_true]
     have:lastA t known ⟨o,p⟩ (some (nthI L g)) y=some y:=by simp only [lastA,hc,cond_true,ha]
     rw [this]
     exact ih _ _ (.inr ⟨by omega,by rw [hx]⟩)
    | false=>
     rw [cond_false]
     have:lastA t known ⟨o,p⟩ (some (nthI L g)) y=some (nthI L g):=by simp only [lastA,hc,cond_true,ha,cond_false]
     rw [this]
     exact ih _ _ (.inr ⟨h1,rfl⟩)
theorem xx (l:List Appoint) (o t known:Int):∀ (s:List Nat) (i:Nat) (g:List Holder),s=List.range' i s.length→bu.L1 l o t known bu.K1 s i g=(g++(s.filterMap fun (p:Nat)=>bif (decide (0≤cz l o (p:Int) t known)&&!((nthI l (cz l o (p:Int) t known)).Gone)) then some (Holder.mk (p:Int) (nthI l (cz l o (p:Int) t known)).Weight) else none),0)
 | [],i,g,_=>by simp [bu.L1,bu.K1]
 | y::s,i,g,h=>by
  rw [List.length_cons,List.range'_succ] at h
  obtain ⟨h1,h2⟩:=List.cons.inj h
  have ih:=fun g=>xx l o t known s (i+1) g h2
  simp only [bu.L1,ih,List.filterMap_cons]
  subst h1
  cases (decide (0≤cz l o (y:Int) t known)&&!((nthI l (cz l o (y:Int) t known)).Gone)) <;> simp
theorem uO (key:Appoint→OSeat×Bool) (later:Appoint→Appoint→Bool):∀ (l:List Appoint) m,(m.map (·.1)).Nodup→((bG.L1 key later bG.K1 l m).map (·.1)).Nodup
 | [],m,h=>h
 | y::l,m,h=>by
  simp only [bG.L1,Bool.cond_eq_ite]
  split
  ·exact uO key later l _ (jt _ _ h)
  ·exact uO key later l _ h
theorem vH {κ α : Type} [DecidableEq κ] {x:κ} {v:α}:∀ {m:List (κ×α)},mget? m x=some v→x∈m.map (·.1)
 | [],h=>by cases h
 | (k,w)::m,h=>by
  unfold mget? at h
  split at h
  ·next e=>rw [e];exact List.mem_cons_self ..
  ·exact List.mem_cons_of_mem _ (vH h)
theorem zO (t known:Int) (s:OSeat):∀ (l:List Appoint) (acc:Option Appoint),(∀ a,acc=some a→a.Office=s.office∧a.Person=s.person)→∀ a,l.foldl (lastA t known s) acc=some a→a.Office=s.office∧a.Person=s.person
 | [],acc,h,a,e=>h a e
 | y::l,acc,h,a,e=>by
  refine zO t known s l (lastA t known s acc y) (fun b hb=>?_) a e
  unfold lastA at hb
  rw [Bool.cond_eq_ite] at hb
  split at hb
  ·next hc=>
   simp only [Bool.and_eq_true,beq_iff_eq] at hc
   cases acc with
   | none=>obtain rfl:=Option.some.inj hb;exact hc.2
   | some c=>
    simp only [Bool.cond_eq_ite] at hb
    split at hb
    ·obtain rfl:=Option.some.inj hb;exact hc.2
    ·obtain rfl:=Option.some.inj hb;exact h c rfl
  ·exact h b hb
theorem BY (t known:Int) (s:OSeat):∀ (l:List Appoint) (acc:Option Appoint) a,l.foldl (lastA t known s) acc=some a→a∈l∨acc=some a
 | [],acc,a,e=>.inr e
 | y::l,acc,a,e=>by
  rcases BY t known s l (lastA t known s acc y) a e with h | h
  ·exact .inl (List.mem_cons_of_mem _ h)
  ·unfold lastA at h
   rw [Bool.cond_eq_ite] at h
   split at h
   ·cases acc with
    | none=>obtain rfl:=Option.some.inj h;exact .inl (List.mem_cons_self ..)
    | some c=>
     simp only [Bool.cond_eq_ite] at h
     split at h
     ·obtain rfl:=Option.some.inj h;exact .inl (List.mem_cons_self ..)
     ·exact .inr h
   ·exact .inr h
theorem w8 {l:List Appoint} (hc:cn l=0) {o t known:Int} (ho:0≤o∧o < 32) (ht:0≤t∧t < 1099511627776) (hk:0≤known∧known < 1099511627776):bu l o t known=dh l o t known:=by
 have h1:∀ x:Int,0≤x∧x < 1099511627776→db x=true:=fun x hx=>by simp only [db,dv,Bool.and_eq_true,decide_eq_true_eq];omega
 have h2:eN o=true:=by simp only [eN,dv,Bool.and_eq_true,decide_eq_true_eq];omega
 have r1:∀ x:Int,0≤x∧x < 1099511627776→iz x=true:=fun x hx=>by simp only [iz,Bool.and_eq_true,decide_eq_true_eq];omega
 have r2:jz o=true:=by simp only [jz,Bool.and_eq_true,decide_eq_true_eq];omega
 have hl:∀ y∈l,0≤y.Person∧y.Person < 64:=by
  have h:=hc
  unfold cn at h
  rw [officesP,Bool.cond_eq_ite] at h
  split at h
  ·omega
  ·intro y hy
   have:=(((th (by omega) l (-1)).1 h).1 y hy).1
   unfold i8 at this
   rw [Bool.cond_eq_ite] at this
   split at this <;> simp only [Bool.and_eq_true,fD,dv,decide_eq_true_eq] at this <;> omega
 unfold bu dh
 rw [← sv,hc,h1 t ht,h1 known hk,h2,r1 t ht,r1 known hk,r2]
 simp only [bne_self_eq_false,cond_false,Bool.not_true,Bool.or_self]
 rw [xx l o t known (List.range 64) 0 [] (by rw [List.length_range];exact List.range_eq_range'),sW,List.nil_append]
 congr 1
 unfold fW bA bA.K1
 rw [m7]
 have hget:∀ s,mget? (em l t known) s=l.foldl (lastA t known s) none:=fun s=>Ej t known s l []
 have hnd:((em l t known).map (·.1)).Nodup:=uO _ _ l [] List.nodup_nil
 generalize em l t known=m at *
 have hval:∀ s v,mget? m s=some v→mgetD m s (Appoint.mk 0 0 0 0 0 0 false)=v:=fun s v e=>by unfold mgetD;rw [e];rfl
 have hseat:∀ s v,mget? m s=some v→(v.Office=s.office∧v.Person=s.person)∧v∈l:=fun s v e=>by
  rw [hget] at e
  exact ⟨zO t known s l none (fun _ h=>by cases h) v e,(BY t known s l none v e).resolve_right (by simp)⟩
 have hlast:∀ p:Int,(cz l o p t known < 0∧mget? m ⟨o,p⟩=none)∨(0≤cz l o p t known∧mget? m ⟨o,p⟩=some (nthI l (cz l o p t known))):=fun p=>by
  rw [hget]
  exact last15 (L:=l) o p t known l [] (-1) none rfl (.inl ⟨by omega,rfl⟩)
 refine uN (fun h:Holder=>h.Person) ?_ ?_ fun x=>?_
 ·rw [List.pairwise_filterMap]
  refine List.pairwise_lt_range.imp fun {a b} hab x hx y hy=>?_
  rw [Bool.cond_eq_ite] at hx hy
  split at hx
  ·split at hy
   ·rw [← Option.some.inj hx,← Option.some.inj hy];show (a:Int) < (b:Int);omega
   ·cases hy
  ·cases hx
 ·rw [List.pairwise_filterMap]
  have hss:=qy (office:=o) ((lj (m.map Prod.fst)).nodup_iff.2 hnd) (qz (m.map Prod.fst))
  refine hss.imp_of_mem fun {a b} ha hb hab x hx y hy=>?_
  have hpa:∀ s x,s∈(seatS (m.map Prod.fst)).filter (fun y=>y.office==o)→(bif (mgetD m s (Appoint.mk 0 0 0 0 0 0 false)).Gone then none else some (Holder.mk (mgetD m s (Appoint.mk 0 0 0 0 0 0 false)).Person (mgetD m s (Appoint.mk 0 0 0 0 0 0 false)).Weight))=some x→x.Person=s.person:=fun s x hs hx=>by
   rw [Bool.cond_eq_ite] at hx
   split at hx
   ·cases hx
   ·obtain ⟨v,hv,_⟩:=my ((lj _).mem_iff.1 (List.mem_filter.1 hs).1)
    rw [← Option.some.inj hx,hval s v hv];exact (hseat s v hv).1.2
  rw [hpa a x ha hx,hpa b y hb hy];exact hab
 ·rw [List.mem_filterMap,List.mem_filterMap]
  constructor
  ·rintro ⟨p,hp,hx⟩
   rw [Bool.cond_eq_ite] at hx
   split at hx
   ·next hg=>
    simp only [Bool.and_eq_true,decide_eq_true_eq,Bool.not_eq_true'] at hg
    rcases hlast (p:Int) with ⟨q1,_⟩ | ⟨_,q2⟩
    ·omega
    ·refine ⟨⟨o,(p:Int)⟩,List.mem_filter.2 ⟨(lj _).mem_iff.2 (vH q2),by simp⟩,?_⟩
     rw [hval _ _ q2,hg.2,← Option.some.inj hx,(hseat _ _ q2).1.2];rfl
   ·cases hx
  ·rintro ⟨s,hs,hx⟩
   obtain ⟨hs1,hs2⟩:=List.mem_filter.1 hs
   obtain ⟨v,hv,_⟩:=my ((lj _).mem_iff.1 hs1)
   have ho2:s.office=o:=by simpa using hs2
   obtain ⟨⟨g1,g2⟩,g3⟩:=hseat s v hv
   have hb:=hl v g3
   rw [hval s v hv,Bool.cond_eq_ite] at hx
   split at hx
   ·cases hx
   ·next hg=>
    have es:s=⟨o,v.Person⟩:=by cases s;simp only at ho2 g2;rw [ho2,g2]
    refine ⟨v.Person.toNat,by rw [List.mem_range];omega,?_⟩
    rw [show (v.Person.toNat:Int)=v.Person from by omega]
    rcases hlast v.Person with ⟨_,q2⟩ | ⟨q1,q2⟩
    ·rw [← es,hv] at q2;cases q2
    ·rw [← es,hv] at q2
     have hv2:=Option.some.inj q2
     rw [← hv2,show decide (0≤cz l o v.Person t known)=true from by simpa using q1,show v.Gone=false from by simpa using hg,← Option.some.inj hx];rfl
def lastV (t known:Int) (acc:Option Version) (y:Version):Option Version:=
 bif decide (y.At≤t)&&decide (y.Known≤known) then (match acc with
  | none=>some y
  | some a=>bif decide (a.At≤y.At) then some y else some a) else acc
def FV (t known:Int) (l:List Version):Option Version:=l.foldl (lastV t known) none
theorem pG (t known:Int) (l:List Version) (y:Version):FV t known (l++[y])=lastV t known (FV t known l) y:=by simp [FV,List.foldl_append]
theorem force20 {L:List Version} (t known:Int):∀ (l pre:List Version) (g:Int) (acc:Option Version),L=pre++l→(g < 0∧acc=none∨0≤g∧acc=some (nthI L g)) →
  (av.L1 L t known av.K1 l pre.length g < 0∧l.foldl (lastV t known) acc=none)∨(0≤av.L1 L t known av.K1 l pre.length g∧l.foldl (lastV t known) acc=some (nthI L (av.L1 L t known av.K1 l pre.length g)))
 | [],pre,g,acc,_,h=>h
 | y::l,pre,g,acc,hL,h=>by
  have hx:nthI L (pre.length:Int)=y:=iE (by rw [hL];simp)
  have ih:=fun (g':Int) (acc':Option Version)=>force20 (L:=L) t known l (pre++[y]) g' acc' (by rw [hL];simp)
  rw [List.length_append,List.length_cons,List.length_nil,Nat.zero_add] at ih
  simp only [av.L1,List.foldl_cons]
  cases hc:(decide (y.At≤t)&&decide (y.Known≤known)) with
  | false=>
   rw [Bool.false_and,cond_false]
   have:lastV t known acc y=acc:=by simp only [lastV,hc,cond_false]
   rw [this]
   exact ih g acc h
  | true=>
   rw [Bool.true_and]
   rcases h with ⟨h1,h2⟩ | ⟨h1,h2⟩
   ·have e1:(decide (g < 0)||decide ((nthI L g).At≤y.At))=true:=by simp [h1]
    rw [e1,cond_true]
    subst h2
    have:lastV t known none y=some y:=by simp only [lastV,hc,cond_true]
    rw [this]
    exact ih _ _ (.inr ⟨by omega,by rw [hx]⟩)
   ·subst h2
    have e0:decide (g < 0)=false:=by simp;omega
    rw [e0,Bool.false_or]
    cases ha:decide ((nthI L g).At≤y.At) with
    | true=>
     rw [cond_true]
     have:lastV t known (some (nthI L g)) y=some y:=by simp only [lastV,hc,cond_true,ha]
     rw [this]
     exact ih _ _ (.inr ⟨by omega,by rw [hx]⟩)
    | false=>
     rw [cond_false]
     have:lastV t known (some (nthI L g)) y=some (nthI L g):=by simp only [lastV,hc,cond_true,ha,cond_false]
     rw [this]
     exact ih _ _ (.inr ⟨h1,rfl⟩)
theorem EI (l:List Version) (t known:Int):(av l t known < 0∧FV t known l=none)∨(0≤av l t known∧FV t known l=some (nthI l (av l t known))):=
 force20 (L:=l) t known l [] (-1) none rfl (.inl ⟨by omega,rfl⟩)
theorem mg (t known:Int):∀ (l:List Version) (acc:Option Version) (v:Version),(∀ a,acc=some a→a.At≤t)→l.foldl (lastV t known) acc=some v →
  (v∈l∧v.Known≤known∨acc=some v)∧v.At≤t∧(∀ y∈l,y.At≤t→y.Known≤known→y.At≤v.At)∧∀ a,acc=some a→a.At≤v.At
 | [],acc,v,h0,h=>⟨.inr h,h0 v h,fun _ hy=>(List.not_mem_nil hy).elim,fun a ha=>by have h2:acc=some v:=h;rw [h2] at ha;rw [Option.some.inj ha];exact Int.le_refl _⟩
 | y::l,acc,v,h0,h=>by
  rw [List.foldl_cons] at h
  cases hc:(decide (y.At≤t)&&decide (y.Known≤known)) with
  | false=>
   have e:lastV t known acc y=acc:=by simp only [lastV,hc,cond_false]
   rw [e] at h
   obtain ⟨h1,h2,h3,h4⟩:=mg t known l acc v h0 h
   refine ⟨h1.imp (fun q=>⟨List.mem_cons_of_mem _ q.1,q.2⟩) id,h2,fun z hz a b=>?_,h4⟩
   rcases List.mem_cons.1 hz with rfl | hz
   ·simp [a,b] at hc
   ·exact h3 z hz a b
  | true=>
   have hc2:=hc
   simp only [Bool.and_eq_true,decide_eq_true_eq] at hc2
   have step:∀ w,lastV t known acc y=some w→((w=y∧∀ a,acc=some a→a.At≤y.At)∨(acc=some w∧y.At≤w.At)):=fun w hw=>by
    simp only [lastV,hc,cond_true] at hw
    cases acc with
    | none=>exact .inl ⟨(Option.some.inj hw).symm,fun a ha=>by cases ha⟩
    | some a=>
     simp only [Bool.cond_eq_ite,decide_eq_true_eq] at hw
     split at hw
     ·next q=>exact .inl ⟨(Option.some.inj hw).symm,fun b hb=>by rw [← Option.some.inj hb];exact q⟩
     ·next q=>exact .inr ⟨hw,by rw [← Option.some.inj hw];omega⟩
   have hn:∃ w,lastV t known acc y=some w:=by
    simp only [lastV,hc,cond_true]
    cases acc with
    | none=>exact ⟨_,rfl⟩
    | some a=>dsimp only;cases decide (a.At≤y.At) <;> exact ⟨_,rfl⟩
   obtain ⟨w,hw⟩:=hn
   have hwt:w.At≤t:=by
    rcases step w hw with ⟨e,_⟩ | ⟨e,_⟩
    ·rw [e];exact hc2.1
    ·exact h0 w e
   obtain ⟨h1,h2,h3,h4⟩:=mg t known l (lastV t known acc y) v (fun a ha=>by rw [hw] at ha;rw [← Option.some.inj ha];exact hwt) h
   have h4w:=h4 w hw
   refine ⟨?_,h2,fun z hz a b=>?_,fun a ha=>?_⟩
   ·rcases h1 with h1 | h1
    ·exact .inl ⟨List.mem_cons_of_mem _ h1.1,h1.2⟩
    ·rcases step v h1 with ⟨e,_⟩ | ⟨e,_⟩
     ·exact .inl ⟨by rw [e];exact List.mem_cons_self ..,by rw [e];exact hc2.2⟩
     ·exact .inr e
   ·rcases List.mem_cons.1 hz with rfl | hz
    ·rcases step w hw with ⟨e,_⟩ | ⟨_,e⟩
     ·rw [← e];exact h4w
     ·omega
    ·exact h3 z hz a b
   ·rcases step w hw with ⟨e,q⟩ | ⟨e,_⟩
    ·have:=q a ha;rw [e] at h4w;omega
    ·rw [e] at ha;rw [← Option.some.inj ha];exact h4w
theorem Db (t known:Int):∀ (l:List Version) (acc:Option Version),l.foldl (lastV t known) acc=none→acc=none∧∀ y∈l,¬ (y.At≤t∧y.Known≤known)
 | [],acc,h=>⟨h,fun _ hy=>(List.not_mem_nil hy).elim⟩
 | y::l,acc,h=>by
  rw [List.foldl_cons] at h
  obtain ⟨h1,h2⟩:=Db t known l _ h
  cases hc:(decide (y.At≤t)&&decide (y.Known≤known)) with
  | false=>
   simp only [lastV,hc,cond_false] at h1
   refine ⟨h1,fun z hz=>?_⟩
   rcases List.mem_cons.1 hz with rfl | hz
   ·intro q;simp [q] at hc
   ·exact h2 z hz
  | true=>
   exfalso
   simp only [lastV,hc,cond_true] at h1
   cases acc with
   | none=>cases h1
   | some a=>dsimp only at h1;cases hd:decide (a.At≤y.At) <;> rw [hd] at h1 <;> cases h1
theorem Jw {α : Type} {P:List α→Prop} (h0:P []) (h1:∀ l x,P l→P (l++[x])) (l:List α):P l:=by
 have:∀ m:List α,P m.reverse:=by
  intro m
  induction m with
  | nil=>exact h0
  | cons x m ih=>rw [List.reverse_cons];exact h1 _ _ ih
 have h:=this l.reverse
 rw [List.reverse_reverse] at h
 exact h
theorem yJ {s t known:Int} (hst:s≤t):∀ (l:List Version) (v:Version),FV t known l=some v→v.At≤s→FV s known l=some v:=by
 intro l
 refine Jw (P:=fun l=>∀ v:Version,FV t known l=some v→v.At≤s→FV s known l=some v) ?_ ?_ l
 ·intro v h _;cases h
 ·intro l y ih v h hv
  rw [pG] at h ⊢
  cases hc:(decide (y.At≤t)&&decide (y.Known≤known)) with
  | false=>
   have h1:FV t known l=some v:=by simpa only [lastV,hc,cond_false] using h
   have h2:=ih v h1 hv
   rw [h2]
   unfold lastV
   cases hd:(decide (y.At≤s)&&decide (y.Known≤known)) with
   | false=>rfl
   | true=>simp at hd hc;omega
  | true=>
   simp only [lastV,hc,cond_true] at h
   simp only [Bool.and_eq_true,decide_eq_true_eq] at hc
   cases hF:FV t known l with
   | none=>
    rw [hF] at h
    have e:y=v:=Option.some.inj h
    subst e
    have:FV s known l=none:=by
     cases hF2:FV s known l with
     | none=>rfl
     | some w=>
      have h3:=mg s known l none w (fun _ h=>by cases h) hF2
      have h4:=(Db t known l none hF).2 w ((h3.1.resolve_right (by simp)).1)
      exact absurd ⟨by omega,(h3.1.resolve_right (by simp)).2⟩ h4
    rw [this]
    have:(decide (y.At≤s)&&decide (y.Known≤known))=true:=by simp [hv,hc.2]
    simp only [lastV,this,cond_true]
   | some a=>
    rw [hF] at h
    simp only [Bool.cond_eq_ite,decide_eq_true_eq] at h
    split at h
    ·next q=>
     have e:y=v:=Option.some.inj h
     subst e
     have hd:(decide (y.At≤s)&&decide (y.Known≤known))=true:=by simp [hv,hc.2]
     cases hF2:FV s known l with
     | none=>simp only [lastV,hd,cond_true]
     | some w=>
      have h3:=mg s known l none w (fun _ h=>by cases h) hF2
      have h4:=mg t known l none a (fun _ h=>by cases h) hF
      have h5:=h4.2.2.1 w ((h3.1.resolve_right (by simp)).1) (by omega) ((h3.1.resolve_right (by simp)).2)
      have:decide (w.At≤y.At)=true:=by simp;omega
      simp only [lastV,hd,cond_true,this]
    ·next q=>
     have e:a=v:=Option.some.inj h
     subst e
     have h2:=ih a hF hv
     rw [h2]
     unfold lastV
     cases hd:(decide (y.At≤s)&&decide (y.Known≤known)) with
     | false=>rfl
     | true=>
      have:decide (a.At≤y.At)=false:=by simpa using q
      simp only [cond_true,this,cond_false]
structure JS (f known:Int) (pre:List Version) (b:Int) (m:List (Int×Version)):Prop where
 at_:∀ a,FV f known pre=some a→b=a.At
 no:FV f known pre=none→b=-1
 beg:mget? m f=FV f known pre
 has:∀ t,f < t→(t∈m.map (·.1)↔∃ y∈pre,y.At=t∧y.Known≤known)
 get:∀ t,f < t→t∈m.map (·.1)→∃ v,mget? m t=some v∧FV t known pre=some v∧v.At=t
 low:∀ t,t∈m.map (·.1)→f≤t
theorem Iv {f known:Int} {l pre:List Version} {b:Int} {m:List (Int×Version)} (hpos:∀ y∈pre++l,0≤y.At) (h:JS f known pre b m):∃ b',JS f known (pre++l) b' (inForceM known f l b m):=by
 induction l generalizing pre b m with
 | nil=>rw [List.append_nil];exact ⟨b,h⟩
 | cons y l ih=>
  have hy0:=hpos y (by simp)
  have hap:pre++y::l=(pre++[y])++l:=by simp
  rw [hap] at hpos ⊢
  simp only [inForceM,Bool.cond_eq_ite,decide_eq_true_eq]
  split
  ·next hk=>
   have hL:∀ t,FV t known (pre++[y])=FV t known pre:=fun t=>by
    rw [pG]
    have:(decide (y.At≤t)&&decide (y.Known≤known))=false:=by simp;omega
    simp only [lastV,this,cond_false]
   refine ih hpos ⟨by rw [hL];exact h.at_,by rw [hL];exact h.no,by rw [hL];exact h.beg,fun t ht=>?_,fun t ht hm=>by rw [hL];exact h.get t ht hm,h.low⟩
   rw [h.has t ht]
   constructor
   ·rintro ⟨z,hz,q⟩;exact ⟨z,List.mem_append_left _ hz,q⟩
   ·rintro ⟨z,hz,q⟩
    rcases List.mem_append.1 hz with hz | hz
    ·exact ⟨z,hz,q⟩
    ·rw [List.mem_singleton.1 hz] at q;omega
  ·next hk=>
   split
   ·next ha=>
    have hcf:(decide (y.At≤f)&&decide (y.Known≤known))=true:=by simp;omega
    have hup:∀ t,f < t→(∃ v,FV t known pre=some v∧v.At=t)→FV t known (pre++[y])=FV t known pre:=fun t ht ⟨v,hv,hvt⟩=>by
     rw [pG,hv]
     have hc:(decide (y.At≤t)&&decide (y.Known≤known))=true:=by simp;omega
     have hd:decide (v.At≤y.At)=false:=by simp;omega
     simp only [lastV,hc,cond_true,hd,cond_false]
    have hhas:∀ t,f < t→((∃ z∈pre,z.At=t∧z.Known≤known)↔∃ z∈pre++[y],z.At=t∧z.Known≤known):=fun t ht=>by
     constructor
     ·rintro ⟨z,hz,q⟩;exact ⟨z,List.mem_append_left _ hz,q⟩
     ·rintro ⟨z,hz,q⟩
      rcases List.mem_append.1 hz with hz | hz
      ·exact ⟨z,hz,q⟩
      ·rw [List.mem_singleton.1 hz] at q;omega
    split
    ·next hb=>
     have hF:∃ a,FV f known pre=some a:=by
      cases hf:FV f known pre with
      | none=>have:=h.no hf;omega
      | some a=>exact ⟨a,rfl⟩
     obtain ⟨a,hf⟩:=hF
     have hba:=h.at_ a hf
     have hL:FV f known (pre++[y])=FV f known pre:=by
      rw [pG,hf]
      have hd:decide (a.At≤y.At)=false:=by simp;omega
      simp only [lastV,hcf,cond_true,hd,cond_false]
     refine ih hpos ⟨by rw [hL];exact h.at_,by rw [hL];exact h.no,by rw [hL];exact h.beg,fun t ht=>(h.has t ht).trans (hhas t ht),fun t ht hm=>?_,h.low⟩
     obtain ⟨v,g1,g2,g3⟩:=h.get t ht hm
     exact ⟨v,g1,by rw [hup t ht ⟨v,g2,g3⟩];exact g2,g3⟩
    ·next hb=>
     have hL:FV f known (pre++[y])=some y:=by
      rw [pG]
      cases hf:FV f known pre with
      | none=>simp only [lastV,hcf,cond_true]
      | some a=>
       have:=h.at_ a hf
       have hd:decide (a.At≤y.At)=true:=by simp;omega
       simp only [lastV,hcf,cond_true,hd]
     refine ih hpos ⟨fun a e=>by rw [hL] at e;rw [← Option.some.inj e],fun e=>(by rw [hL] at e;cases e),by rw [hL,jO,if_pos rfl],fun t ht=>?_,fun t ht hm=>?_,fun t hm=>?_⟩
     ·rw [lJ,← hhas t ht,← h.has t ht]
      exact ⟨fun q=>q.resolve_left (by omega),.inr⟩
     ·have hm2:=((lJ _ _ _ _).1 hm).resolve_left (by omega)
      obtain ⟨v,g1,g2,g3⟩:=h.get t ht hm2
      exact ⟨v,by rw [jO,if_neg (by omega)];exact g1,by rw [hup t ht ⟨v,g2,g3⟩];exact g2,g3⟩
     ·rcases (lJ _ _ _ _).1 hm with e | e
      ·omega
      ·exact h.low t e
   ·next ha=>
    have hLf:FV f known (pre++[y])=FV f known pre:=by
     rw [pG]
     have:(decide (y.At≤f)&&decide (y.Known≤known))=false:=by simp;omega
     simp only [lastV,this,cond_false]
    refine ih hpos ⟨by rw [hLf];exact h.at_,by rw [hLf];exact h.no,by rw [hLf,jO,if_neg (by omega)];exact h.beg,fun t ht=>?_,fun t ht hm=>?_,fun t hm=>?_⟩
    ·rw [lJ,h.has t ht]
     constructor
     ·rintro (e | ⟨z,hz,q⟩)
      ·exact ⟨y,by simp,e.symm,by omega⟩
      ·exact ⟨z,List.mem_append_left _ hz,q⟩
     ·rintro ⟨z,hz,q⟩
      rcases List.mem_append.1 hz with hz | hz
      ·exact .inr ⟨z,hz,q⟩
      ·rw [List.mem_singleton.1 hz] at q;exact .inl q.1.symm
    ·by_cases e:t=y.At
     ·subst e
      refine ⟨y,by rw [jO,if_pos rfl],?_,rfl⟩
      rw [pG]
      have hc:(decide (y.At≤y.At)&&decide (y.Known≤known))=true:=by simp;omega
      cases hF:FV y.At known pre with
      | none=>simp only [lastV,hc,cond_true]
      | some a=>
       have:=(mg y.At known pre none a (fun _ h=>by cases h) hF).2.1
       have hd:decide (a.At≤y.At)=true:=by simpa using this
       simp only [lastV,hc,cond_true,hd]
     ·have hm2:=((lJ _ _ _ _).1 hm).resolve_left e
      obtain ⟨v,g1,g2,g3⟩:=h.get t ht hm2
      refine ⟨v,by rw [jO,if_neg e];exact g1,?_,g3⟩
      rw [pG,g2]
      unfold lastV
      cases hc:(decide (y.At≤t)&&decide (y.Known≤known)) with
      | false=>rfl
      | true=>
       have hd:decide (v.At≤y.At)=false:=by simp at hc;simp;omega
       simp only [cond_true,hd,cond_false]
    ·rcases (lJ _ _ _ _).1 hm with e | e
     ·omega
     ·exact h.low t e
theorem JF {f known:Int} {l:List Version} (hpos:∀ y∈l,0≤y.At):∃ b,JS f known l b (inForceM known f l (-1) []):=by
 have h0:JS f known [] (-1) []:=⟨(fun a h=>by cases h),fun _=>rfl,rfl,(fun t _=>by simp),(fun t _ h=>(List.not_mem_nil h).elim),fun t h=>(List.not_mem_nil h).elim⟩
 obtain ⟨b,h⟩:=Iv (l:=l) (pre:=[]) (by simpa using hpos) h0
 exact ⟨b,by simpa using h⟩
theorem Ik (W:List Int) (n:Int):∀ (l pre:List Int),W=pre++l→(∀ x∈pre,x < n)→W.Pairwise (· < ·) →
  (dx.L1 n (dx.K1 W n) l pre.length).Pairwise (· < ·)∧∀ x,x∈dx.L1 n (dx.K1 W n) l pre.length↔x=n∨x∈W:=by
 have hK:∀ (l pre:List Int),W=pre++l→(∀ x∈pre,x < n)→(∀ x∈l,n≤x)→W.Pairwise (· < ·)→(dx.K1 W n pre.length).Pairwise (· < ·)∧∀ x,x∈dx.K1 W n pre.length↔x=n∨x∈W:=by
  intro l pre h hp hl hW
  unfold dx.K1
  rw [show (((pre.length:Int):Int)).toNat=pre.length from by omega]
  rw [Bool.cond_eq_ite]
  split
  ·next hc=>
   simp only [Bool.and_eq_true,decide_eq_true_eq,beq_iff_eq] at hc
   have hn:n∈W:=by rw [← hc.2];exact fw ⟨by omega,hc.1⟩
   exact ⟨hW,fun x=>⟨.inr,fun q=>q.elim (fun e=>by rw [e];exact hn) id⟩⟩
  ·next hc=>
   have hnl:∀ x∈l,n < x:=by
    intro x hx
    cases l with
    | nil=>cases hx
    | cons y l=>
     have hy:nthI W (pre.length:Int)=y:=iE (by rw [h];simp)
     rw [hy] at hc
     have hlen:(pre.length:Int) < (W.length:Int):=by rw [h];simp;omega
     have hne:y≠n:=fun e=>hc (by simp [hlen,e])
     have hy2:=hl y (List.mem_cons_self ..)
     rw [h,List.pairwise_append] at hW
     rcases List.mem_cons.1 hx with rfl | hx
     ·omega
     ·have:=(List.pairwise_cons.1 hW.2.1).1 x hx;omega
   rw [h,List.take_left,List.drop_left]
   rw [h,List.pairwise_append] at hW
   refine ⟨?_,fun x=>?_⟩
   ·rw [List.append_assoc,List.pairwise_append]
    refine ⟨hW.1,List.pairwise_cons.2 ⟨hnl,hW.2.1⟩,fun a ha b hb=>?_⟩
    rcases List.mem_cons.1 hb with rfl | hb
    ·exact hp a ha
    ·exact hW.2.2 a ha b hb
   ·simp only [List.mem_append,List.mem_singleton]
    constructor
    ·rintro ((q | q) | q) <;> simp [q]
    ·rintro (q | q | q) <;> simp [q]
 intro l
 induction l with
 | nil=>intro pre h hp hW;exact hK [] pre h hp (fun _ h=>(List.not_mem_nil h).elim) hW
 | cons y l ih=>
  intro pre h hp hW
  simp only [dx.L1,Bool.cond_eq_ite,decide_eq_true_eq]
  split
  ·next hy=>
   have:=ih (pre++[y]) (by rw [h];simp) (fun x hx=>by
    rcases List.mem_append.1 hx with hx | hx
    ·exact hp x hx
    ·rw [List.mem_singleton.1 hx];exact hy) hW
   rw [List.length_append,List.length_cons,List.length_nil,Nat.zero_add] at this
   exact this
  ·next hy=>
   refine hK (y::l) pre h hp (fun x hx=>?_) hW
   rw [h,List.pairwise_append] at hW
   rcases List.mem_cons.1 hx with rfl | hx
   ·omega
   ·have:=(List.pairwise_cons.1 hW.2.1).1 x hx;omega
theorem put27 {l:List Int} (n:Int) (h:l.Pairwise (· < ·)):(dx l n).Pairwise (· < ·)∧∀ x,x∈dx l n↔x=n∨x∈l:=Ik l n l [] rfl (fun _ h=>(List.not_mem_nil h).elim) h
theorem between27 (l:List Version) (begun at_ known:Int):(bj l begun at_ known).Pairwise (· < ·)∧∀ n,n∈bj l begun at_ known↔(∃ v,FV begun known l=some v∧v.No=n)∨∃ y∈l,(begun < y.At∧y.At≤at_)∧∃ v,FV y.At known l=some v∧v.No=n:=by
 have hF:∀ t,decide (0≤av l t known)=(FV t known l).isSome∧∀ v,FV t known l=some v→nthI l (av l t known)=v:=fun t=>by
  rcases EI l t known with ⟨h1,h2⟩ | ⟨h1,h2⟩
  ·rw [h2];exact ⟨by simp;omega,fun v h=>by cases h⟩
  ·rw [h2];exact ⟨by simpa using h1,fun v h=>Option.some.inj h⟩
 have step:∀ (s:List Version) (g:List Int),g.Pairwise (· < ·)→(bj.L1 l begun at_ known bj.K1 s g).Pairwise (· < ·)∧∀ n,n∈bj.L1 l begun at_ known bj.K1 s g↔n∈g∨∃ y∈s,(begun < y.At∧y.At≤at_)∧∃ v,FV y.At known l=some v∧v.No=n:=by
  intro s
  induction s with
  | nil=>intro g hg;exact ⟨hg,fun n=>by simp [bj.L1,bj.K1]⟩
  | cons y s ih=>
   intro g hg
   simp only [bj.L1]
   rw [(hF y.At).1]
   cases hc:((decide (begun < y.At)&&decide (y.At≤at_))&&(FV y.At known l).isSome) with
   | true=>
    rw [cond_true]
    simp only [Bool.and_eq_true,decide_eq_true_eq] at hc
    obtain ⟨v,hv⟩:=Option.isSome_iff_exists.1 hc.2
    rw [(hF y.At).2 v hv]
    obtain ⟨p1,p2⟩:=put27 v.No hg
    obtain ⟨q1,q2⟩:=ih _ p1
    refine ⟨q1,fun n=>?_⟩
    rw [q2,p2]
    simp only [List.mem_cons,exists_eq_or_imp]
    constructor
    ·rintro ((e | e) | e)
     ·exact .inr (.inl ⟨hc.1,v,hv,e.symm⟩)
     ·exact .inl e
     ·exact .inr (.inr e)
    ·rintro (e | ⟨_,w,hw,e⟩ | e)
     ·exact .inl (.inr e)
     ·rw [hv] at hw;rw [← Option.some.inj hw] at e;exact .inl (.inl e.symm)
     ·exact .inr e
   | false=>
    rw [cond_false]
    obtain ⟨q1,q2⟩:=ih _ hg
    refine ⟨q1,fun n=>?_⟩
    rw [q2]
    simp only [List.mem_cons,exists_eq_or_imp]
    constructor
    ·rintro (e | e)
     ·exact .inl e
     ·exact .inr (.inr e)
    ·rintro (e | ⟨h1,w,hw,_⟩ | e)
     ·exact .inl e
     ·rw [hw] at hc;simp [h1] at hc
     ·exact .inr e
 have same:∀ (s:List Version) (g:List Int),bj.L2 l begun at_ known bj.K2 s g=bj.L1 l begun at_ known bj.K1 s g:=by
  intro s
  induction s with
  | nil=>intro g;rfl
  | cons y s ih=>intro g;simp only [bj.L2,bj.L1,ih]
 unfold bj
 rw [(hF begun).1]
 cases hb:FV begun known l with
 | none=>
  rw [Option.isSome_none,cond_false,same]
  obtain ⟨q1,q2⟩:=step l [] List.Pairwise.nil
  exact ⟨q1,fun n=>by rw [q2];simp⟩
 | some v=>
  rw [Option.isSome_some,cond_true,(hF begun).2 v hb]
  obtain ⟨p1,p2⟩:=put27 v.No (l:=[]) List.Pairwise.nil
  obtain ⟨q1,q2⟩:=step l _ p1
  refine ⟨q1,fun n=>?_⟩
  rw [q2,p2]
  constructor
  ·rintro ((e | e) | e)
   ·exact .inl ⟨v,rfl,e.symm⟩
   ·cases e
   ·exact .inr e
  ·rintro (⟨w,hw,e⟩ | e)
   ·rw [← Option.some.inj hw] at e;exact .inl (.inl e.symm)
   ·exact .inr e
theorem uj (begun at_:Int) (k:Bool→List Version→List Int×Int×Int):∀ (l:List (Int×Version)) b g,l.Pairwise (fun p q=>p.1 < q.1)→ay.L1 begun at_ k l b g=k (b||(l.filter fun p=>decide (p.1≤at_)).any fun p=>p.1==begun) (g++(l.filter fun p=>decide (p.1≤at_)).map (·.2))
 | [],b,g,_=>by simp [ay.L1]
 | y::l,b,g,h=>by
  obtain ⟨h1,h2⟩:=List.pairwise_cons.1 h
  simp only [ay.L1,Bool.cond_eq_ite,decide_eq_true_eq]
  split
  ·next hy=>
   have:((y::l).filter fun p=>decide (p.1≤at_))=[]:=by
    rw [List.filter_eq_nil_iff]
    intro p hp
    rcases List.mem_cons.1 hp with rfl | hp
    ·simp;omega
    ·have:=h1 p hp;simp;omega
   rw [this];simp
  ·next hy=>
   rw [uj begun at_ k l _ _ h2,List.filter_cons,if_pos (by simp;omega)]
   simp [Bool.or_assoc]
theorem EY {l:List Version} (g:o9 l) (hr:cy l=0) {begun at_ known:Int} (hb:0≤begun∧begun < 1099511627776) (ht:0≤at_∧at_ < 1099511627776) (hk:0≤known∧known < 1099511627776) (hle:begun≤at_):cN l begun at_ known=ay l begun at_ known:=by
 have hj:=tH g (begun:=begun) (at_:=at_) (known:=known) hb ht hk hle
 have h0:bh l=0:=(je l).2 g
 have h1:∀ x:Int,0≤x∧x < 1099511627776→eZ x=true:=fun x hx=>by simp [eZ,hx]
 have r1:∀ x:Int,0≤x∧x < 1099511627776→bM x=true:=fun x hx=>by simp [bM,hx]
 have h2:decide (at_ < begun)=false:=by simp;omega
 have hF:∀ t,decide (av l t known < 0)=(FV t known l).isNone∧∀ v,FV t known l=some v→nthI l (av l t known)=v:=fun t=>by
  rcases EI l t known with ⟨h1,h2⟩ | ⟨h1,h2⟩
  ·rw [h2];exact ⟨by simpa using h1,fun v h=>by cases h⟩
  ·rw [h2];exact ⟨by simp;omega,fun v h=>Option.some.inj h⟩
 obtain ⟨b0,inv⟩:=JF (f:=begun) (known:=known) (l:=l) fun y hy=>(g.each y hy).1.1
 have hnd:((inForceM known begun l (-1) []).map (·.1)).Nodup:=kp known begun l (-1) [] List.nodup_nil
 have hP:ay l begun at_ known=ay.L1 begun at_ ay.K1 (ef l begun known) false []:=by
  unfold ay
  rw [h0,h1 _ hb,h1 _ ht,h1 _ hk,h2];rfl
 have hP2:=uj begun at_ ay.K1 (ef l begun known) false [] (vL l begun known)
 rw [Bool.false_or,List.nil_append] at hP2
 have hE:=qZ l begun known
 generalize inForceM known begun l (-1) []=m at inv hnd hE
 have hent:(ef l begun known).filter (fun p=>decide (p.1≤at_))=((sortI (m.map Prod.fst)).filter fun k=>decide (k≤at_)).map fun y=>(y,mgetD m y (Version.mk 0 0 0 (Policy.mk (⟨#[]⟩:ByteArray) [] [] [] (Expr.mk 0 0 0 (⟨#[]⟩:ByteArray) []) 0))):=by
  rw [hE,List.filter_map];rfl
 generalize hks:(sortI (m.map Prod.fst)).filter (fun k=>decide (k≤at_))=ks at hent
 have kin:∀ t,t∈ks↔t∈m.map (·.1)∧t≤at_:=fun t=>by
  rw [← hks,List.mem_filter,(gS _).mem_iff];simp
 have krise:ks.Pairwise (· < ·):=by
  rw [← hks];exact (pU (jw _) ((gS _).nodup_iff.2 hnd)).sublist (List.filter_sublist ..)
 rw [hent] at hP2
 generalize hz:(Version.mk 0 0 0 (Policy.mk (⟨#[]⟩:ByteArray) [] [] [] (Expr.mk 0 0 0 (⟨#[]⟩:ByteArray) []) 0))=z at hP2 hent
 have kval:∀ t∈ks,∃ v,mgetD m t z=v∧FV t known l=some v∧(t=begun∨begun < t∧v.At=t):=fun t h=>by
  obtain ⟨q1,q2⟩:=(kin t).1 h
  have q3:=inv.low t q1
  by_cases e:t=begun
  ·subst e
   obtain ⟨v,hv,_⟩:=my q1
   exact ⟨v,by unfold mgetD;rw [hv];rfl,by rw [← inv.beg];exact hv,.inl rfl⟩
  ·obtain ⟨v,a1,a2,a3⟩:=inv.get t (by omega) q1
   exact ⟨v,by unfold mgetD;rw [a1];rfl,a2,.inr ⟨by omega,a3⟩⟩
 have hany:((ks.map fun y=>(y,mgetD m y z)).any fun p=>p.1==begun)=ks.contains begun:=by
  rw [List.any_map,Bool.eq_iff_iff,List.any_eq_true,List.contains_iff_mem]
  constructor
  ·rintro ⟨x,hx,e⟩;rw [show begun=x from (by simpa using e:x=begun).symm];exact hx
  ·intro h;exact ⟨begun,h,by simp⟩
 have hmet:(ks.map fun y=>(y,mgetD m y z)).map (·.2)=ks.map fun y=>mgetD m y z:=by rw [List.map_map];rfl
 rw [hany,hmet] at hP2
 have hbeg:ks.contains begun=(FV begun known l).isSome:=by
  rw [Bool.eq_iff_iff,List.contains_iff_mem,kin]
  constructor
  ·rintro ⟨q,_⟩
   obtain ⟨v,hv,_⟩:=my q
   rw [inv.beg] at hv;rw [hv];rfl
  ·intro h
   obtain ⟨v,hv⟩:=Option.isSome_iff_exists.1 h
   exact ⟨vH (by rw [inv.beg];exact hv),hle⟩
 have hR:cN l begun at_ known=(bif (FV at_ known l).isNone then ([],0,0) else (bif ((nthI l (av l at_ known)).Policy.Mode==1) then (bif (FV begun known l).isNone then ([],(nthI l (av l at_ known)).Policy.Mode,0) else ([(nthI l (av l begun known)).No],(nthI l (av l at_ known)).Policy.Mode,0)) else (bif ((nthI l (av l at_ known)).Policy.Mode==2) then ([(nthI l (av l at_ known)).No],(nthI l (av l at_ known)).Policy.Mode,0) else ((bj l begun at_ known),(nthI l (av l at_ known)).Policy.Mode,0)))):=by
  unfold cN
  rw [hr,r1 _ hb,r1 _ ht,r1 _ hk,h2,(hF at_).1,(hF begun).1];rfl
 rw [hR,hP,hP2]
 rw [hP,hP2] at hj
 cases hw:FV at_ known l with
 | none=>
  have hno:ks=[]:=by
   cases hks2:ks with
   | nil=>rfl
   | cons t ts=>
    exfalso
    have hmem:t∈ks:=by rw [hks2];exact List.mem_cons_self ..
    obtain ⟨v,_,hv,_⟩:=kval t hmem
    have f1:=mg t known l none v (fun _ h=>by cases h) hv
    have f2:=f1.1.resolve_right (by simp)
    exact (Db at_ known l none hw).2 v f2.1 ⟨by have:=((kin t).1 hmem).2;omega,f2.2⟩
  rw [hno];rfl
 | some w=>
  rw [Option.isNone_some,cond_false,(hF at_).2 w hw]
  have f1:=mg at_ known l none w (fun _ h=>by cases h) hw
  have f2:=f1.1.resolve_right (by simp)
  have hlast:∃ κ,κ∈ks∧mgetD m κ z=w∧∀ t∈ks,t≤κ:=by
   by_cases hwb:w.At≤begun
   ·have hfb:=yJ hle l w hw hwb
    have hm:begun∈ks:=(kin begun).2 ⟨vH (by rw [inv.beg];exact hfb),hle⟩
    refine ⟨begun,hm,?_,fun t h=>?_⟩
    ·obtain ⟨v,a1,a2,_⟩:=kval begun hm
     rw [hfb] at a2;rw [a1];exact (Option.some.inj a2).symm
    ·obtain ⟨v,_,a2,a3⟩:=kval t h
     rcases a3 with e | ⟨q1,q2⟩
     ·omega
     ·have g1:=mg t known l none v (fun _ h=>by cases h) a2
      have g2:=g1.1.resolve_right (by simp)
      have:=f1.2.2.1 v g2.1 (by have:=((kin t).1 h).2;omega) g2.2
      omega
   ·have hm:w.At∈ks:=(kin w.At).2 ⟨(inv.has w.At (by omega)).2 ⟨w,f2.1,rfl,f2.2⟩,f1.2.1⟩
    have hfw:=yJ (s:=w.At) f1.2.1 l w hw (Int.le_refl _)
    refine ⟨w.At,hm,?_,fun t h=>?_⟩
    ·obtain ⟨v,a1,a2,_⟩:=kval w.At hm
     rw [hfw] at a2;rw [a1];exact (Option.some.inj a2).symm
    ·obtain ⟨v,_,a2,a3⟩:=kval t h
     rcases a3 with e | ⟨q1,q2⟩
     ·omega
     ·have g1:=mg t known l none v (fun _ h=>by cases h) a2
      have g2:=g1.1.resolve_right (by simp)
      have:=f1.2.2.1 v g2.1 (by have:=((kin t).1 h).2;omega) g2.2
      omega
  obtain ⟨κ,k1,k2,k3⟩:=hlast
  obtain ⟨init,hinit⟩:∃ init,ks=init++[κ]:=by
   rcases List.eq_nil_or_concat ks with e | ⟨a,x,e⟩
   ·rw [e] at k1;cases k1
   ·rw [List.concat_eq_append] at e
    refine ⟨a,?_⟩
    have hx:x=κ:=by
     rw [e] at k1 krise
     rcases List.mem_append.1 k1 with h | h
     ·have q1:=(List.pairwise_append.1 krise).2.2 κ h x (by simp)
      have q2:=k3 x (by rw [e];simp)
      omega
     ·exact (List.mem_singleton.1 h).symm
    rw [e,hx]
  have hlen:((ks.map fun y=>mgetD m y z).length:Int) - 1=(init.length:Int):=by rw [hinit];simp
  have hnth:nthI (ks.map fun y=>mgetD m y z) (((ks.map fun y=>mgetD m y z).length:Int) - 1)=w:=by
   rw [hlen];exact iE (by rw [hinit];simp [k2])
  have hne:(((ks.map fun y=>mgetD m y z).length:Int)==0)=false:=by rw [hinit];simp;omega
  have hmode:=g.mode f2.1
  unfold ay.K1 at hj ⊢
  rw [hne,hnth] at hj ⊢
  simp only [cond_false,tI,ay.K2,List.nil_append] at hj ⊢
  rw [hnth] at hj ⊢
  rw [hbeg] at hj ⊢
  have hmm:w.Policy.Mode=1∨w.Policy.Mode=2∨w.Policy.Mode=3∨w.Policy.Mode=4:=by omega
  rcases hmm with e | e | e
  ·rw [e]
   have:judgesP 1=fj:=rfl
   rw [this]
   unfold fj
   cases hfb:FV begun known l with
   | none=>rfl
   | some a=>
    have hbm:begun∈ks:=by rw [← List.contains_iff_mem,hbeg,hfb];rfl
    obtain ⟨t0,ts,hts⟩:∃ t0 ts,ks=t0::ts:=by cases ks with
     | nil=>cases hbm
     | cons t0 ts=>exact ⟨t0,ts,rfl⟩
    have ht0:t0=begun:=by
     have q1:=inv.low t0 ((kin t0).1 (by rw [hts];exact List.mem_cons_self ..)).1
     rw [hts] at hbm krise
     rcases List.mem_cons.1 hbm with q | q
     ·exact q.symm
     ·have:=(List.pairwise_cons.1 krise).1 begun q;omega
    obtain ⟨v,a1,a2,_⟩:=kval begun hbm
    rw [hfb] at a2
    rw [(hF begun).2 a hfb,hts,ht0,List.map_cons,a1,← Option.some.inj a2]
    rfl
  ·rw [e]
   have:judgesP 2=fF:=rfl
   rw [this]
   unfold fF
   rw [show (((((ks.map fun y=>mgetD m y z).length:Int) - 1):Int)).toNat=init.length from by rw [hlen];omega,hinit,List.map_append,List.drop_left' (by simp)]
   simp only [List.map_cons,List.map_nil,k2]
   rfl
  ·have hP3:judgesP w.Policy.Mode=fG:=by rcases e with e | e <;> rw [e] <;> rfl
   have n1:(w.Policy.Mode==1)=false:=by rcases e with e | e <;> rw [e] <;> rfl
   have n2:(w.Policy.Mode==2)=false:=by rcases e with e | e <;> rw [e] <;> rfl
   rw [hP3] at hj ⊢
   rw [n1,n2]
   simp only [cond_false]
   unfold fG at hj ⊢
   congr 1
   obtain ⟨b1,b2⟩:=between27 l begun at_ known
   refine uN (fun x:Int=>x) b1 hj.rise fun n=>?_
   rw [b2,(gS _).mem_iff]
   simp only [List.mem_map]
   constructor
   ·rintro (⟨v,hv,hn⟩ | ⟨y,hy,⟨y1,y2⟩,v,hv,hn⟩)
    ·have hbm:begun∈ks:=by rw [← List.contains_iff_mem,hbeg,hv];rfl
     obtain ⟨u,a1,a2,_⟩:=kval begun hbm
     rw [hv] at a2
     exact ⟨u,⟨begun,hbm,a1⟩,by rw [← Option.some.inj a2];exact hn⟩
    ·have g1:=mg y.At known l none v (fun _ h=>by cases h) hv
     have g2:=g1.1.resolve_right (by simp)
     by_cases hvb:v.At≤begun
     ·have hfb:=yJ (s:=begun) (by omega) l v hv hvb
      have hbm:begun∈ks:=by rw [← List.contains_iff_mem,hbeg,hfb];rfl
      obtain ⟨u,a1,a2,_⟩:=kval begun hbm
      rw [hfb] at a2
      exact ⟨u,⟨begun,hbm,a1⟩,by rw [← Option.some.inj a2];exact hn⟩
     ·have hm:v.At∈ks:=(kin v.At).2 ⟨(inv.has v.At (by omega)).2 ⟨v,g2.1,rfl,g2.2⟩,by have:=g1.2.1;omega⟩
      have hfv:=yJ (s:=v.At) g1.2.1 l v hv (Int.le_refl _)
      obtain ⟨u,a1,a2,_⟩:=kval v.At hm
      rw [hfv] at a2
      exact ⟨u,⟨v.At,hm,a1⟩,by rw [← Option.some.inj a2];exact hn⟩
   ·rintro ⟨u,⟨t,htk,hu⟩,hn⟩
    obtain ⟨v,a1,a2,a3⟩:=kval t htk
    have huv:u=v:=hu.symm.trans a1
    rw [huv] at hn
    rcases a3 with q | ⟨q1,q2⟩
    ·subst q;exact .inl ⟨v,a2,hn⟩
    ·have g1:=mg t known l none v (fun _ h=>by cases h) a2
     have g2:=g1.1.resolve_right (by simp)
     exact .inr ⟨v,g2.1,⟨by omega,by have:=((kin t).1 htk).2;omega⟩,v,by rw [q2];exact a2,hn⟩
end Go.Sg
