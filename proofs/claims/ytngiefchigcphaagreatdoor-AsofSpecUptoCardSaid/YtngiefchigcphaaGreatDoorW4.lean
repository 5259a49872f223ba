import Derived.KernelRfl
import Derived.Test.YtngiefchigcphaaGreatDoorW3
/- A part of the proof of AsofSpec. -/
set_option linter.unusedVariables false
set_option linter.unusedSimpArgs false
set_option maxRecDepth 100000
namespace Go.Sg
theorem oB (r:Register):eP r=0↔co r.Appoints=0∧dj r.Deputies=0∧bK r.Interests=0∧dl r.Budgets=0∧bg r.Versions=0∧bH r.Docs=0∧cp r.Approvals=0:=by
 have e:eP r=(bif co r.Appoints != 0 then 300 else bif dj r.Deputies != 0 then 300 else bif bK r.Interests != 0 then 300 else bif dl r.Budgets != 0 then 300 else bif bg r.Versions != 0 then 300 else bif bH r.Docs != 0 then 300 else bif cp r.Approvals != 0 then 300 else 0):=rfl
 rw [e]
 have key:∀ (a x:Int),(bif a != 0 then 300 else x)=0↔a=0∧x=0:=by
  intro a x
  by_cases h:a=0
  ·simp [h]
  ·have:(a != 0)=true:=by simpa using h
   rw [this];simp [h]
 simp only [key,and_true]
theorem FN (limit:Int) (k:Int→Bool):∀ (l:List Int) (g:Int),cY.L1 limit k l g=true↔((∀ x∈l,g < x∧x < limit)∧l.Pairwise (· < ·))∧∃ g',(l=[]∧g'=g∨l.getLast? = some g')∧k g'=true
 | [],g=>by simp [cY.L1]
 | y::l,g=>by
  simp only [cY.L1,Bool.cond_eq_ite,Bool.or_eq_true,decide_eq_true_eq]
  split
  ·next h=>
   constructor
   ·intro h';cases h'
   ·rintro ⟨⟨h1,_⟩,_⟩;have:=h1 y (List.mem_cons_self ..);omega
  ·next h=>
   rw [FN limit k l y,List.pairwise_cons]
   simp only [List.mem_cons,forall_eq_or_imp]
   constructor
   ·rintro ⟨⟨h1,h2⟩,g',h3,h4⟩
    refine ⟨⟨⟨by omega,fun x hx=>by have:=h1 x hx;omega⟩,fun x hx=>(h1 x hx).1,h2⟩,g',?_,h4⟩
    rcases h3 with ⟨rfl,rfl⟩ | h3
    ·simp
    ·right;cases l with
     | nil=>simp at h3
     | cons z l=>simpa using h3
   ·rintro ⟨⟨⟨h1,h2⟩,h3,h4⟩,g',h5,h6⟩
    refine ⟨⟨fun x hx=>⟨h3 x hx,(h2 x hx).2⟩,h4⟩,g',?_,h6⟩
    rcases h5 with ⟨h5,_⟩ | h5
    ·cases h5
    ·cases l with
     | nil=>left;simp at h5;exact ⟨rfl,h5.symm⟩
     | cons z l=>right;simpa using h5
theorem xX (l:List Int) (limit:Int):cY l limit=true↔((∀ x∈l,0≤x∧x < limit)∧l.Pairwise (· < ·))∧l.length≤16:=by
 unfold cY
 rw [FN]
 constructor
 ·rintro ⟨⟨h1,h2⟩,g',_,h3⟩
  refine ⟨⟨fun x hx=>by have:=h1 x hx;omega,h2⟩,?_⟩
  simp only [cY.K1,decide_eq_true_eq] at h3
  omega
 ·rintro ⟨⟨h1,h2⟩,h3⟩
  refine ⟨⟨fun x hx=>by have:=h1 x hx;omega,h2⟩,?_⟩
  cases l with
  | nil=>exact ⟨_,.inl ⟨rfl,rfl⟩,by simp [cY.K1]⟩
  | cons y l=>
   refine ⟨(y::l).getLast (by simp),.inr (List.getLast?_eq_some_getLast _),?_⟩
   simp only [cY.K1,decide_eq_true_eq]
   omega
structure Al (d:Document):Prop where
 no:0≤d.No∧d.No < 4096
 at_:0≤d.At∧d.At < 1099511627776
 kind:0≤d.Kind∧d.Kind < 16
 value:0≤d.Value∧d.Value≤1099511627776
 eo:0≤d.From∧d.From < d.Until
 JV:d.Until≤1099511627776
 parties:((∀ x∈d.Parties,0≤x∧x < 1048577)∧d.Parties.Pairwise (· < ·))∧d.Parties.length≤16
 revokes:((∀ x∈d.Revokes,0≤x∧x < d.No)∧d.Revokes.Pairwise (· < ·))∧d.Revokes.length≤16
 needs:((∀ x∈d.Needs,0≤x∧x < d.No)∧d.Needs.Pairwise (· < ·))∧d.Needs.length≤16
theorem Dj (d:Document):fG d=true↔Al d:=by
 unfold fG jd
 simp only [Bool.and_eq_true,decide_eq_true_eq,xX]
 constructor
 ·rintro ⟨⟨⟨⟨⟨⟨⟨⟨⟨⟨⟨⟨a,b⟩,c,d⟩,e⟩,f⟩,g⟩,h⟩,i⟩,j⟩,k⟩,l⟩,m⟩,n⟩
  exact ⟨⟨a,b⟩,⟨c,d⟩,⟨e,f⟩,⟨g,h⟩,⟨i,j⟩,k,l,m,n⟩
 ·rintro ⟨⟨a,b⟩,⟨c,d⟩,⟨e,f⟩,⟨g,h⟩,⟨i,j⟩,k,l,m,n⟩
  exact ⟨⟨⟨⟨⟨⟨⟨⟨⟨⟨⟨⟨a,b⟩,c,d⟩,e⟩,f⟩,g⟩,h⟩,i⟩,j⟩,k⟩,l⟩,m⟩,n⟩
theorem zX (l0:List Document):∀ (l:List Document) (i:Nat),bH.L1 l0 0 l i=0→∀ d∈l,fG d=true
 | [],_,_,_,hd=>(List.not_mem_nil hd).elim
 | y::l,i,h,d,hd=>by
  simp only [bH.L1,Bool.cond_eq_ite] at h
  split at h
  ·omega
  ·next hc=>
   simp only [Bool.or_eq_true,not_or,Bool.not_eq_true',Bool.not_eq_false] at hc
   rcases List.mem_cons.1 hd with rfl | hd
   ·exact hc.1.1
   ·exact zX l0 l (i+1) h d hd
theorem sW {l:List Document} (h:bH l=0):∀ d∈l,Al d:=by
 unfold bH bH.K1 at h
 rw [Bool.cond_eq_ite] at h
 split at h
 ·omega
 ·exact fun d hd=>(Dj d).1 (zX l l 0 h d hd)
theorem DZ (f:Document→Bool):∀ (l:List Document) (i:Nat),(ab.L1 f ab.K1 l i=-1∧∀ x∈l,f x=false) ∨
  ∃ a y b,l=a++y::b∧ab.L1 f ab.K1 l i=((i+a.length:Nat):Int)∧f y=true∧∀ x∈a,f x=false
 | [],i=>.inl ⟨rfl,fun _ h=>(List.not_mem_nil h).elim⟩
 | y::l,i=>by
  simp only [ab.L1]
  cases hy:f y with
  | true=>exact .inr ⟨[],y,l,rfl,by simp,hy,fun _ h=>(List.not_mem_nil h).elim⟩
  | false=>
   rcases DZ f l (i+1) with ⟨h1,h2⟩ | ⟨a,z,b,rfl,h2,h3,h4⟩
   ·exact .inl ⟨h1,fun x hx=>by rcases List.mem_cons.1 hx with rfl | hx;exact hy;exact h2 x hx⟩
   ·refine .inr ⟨y::a,z,b,rfl,?_,h3,fun x hx=>by rcases List.mem_cons.1 hx with rfl | hx;exact hy;exact h4 x hx⟩
    rw [cond_false,h2];simp only [List.length_cons];congr 1;omega
theorem Kq {r:Register} {doc known:Int} (h:(cB r doc known).2=true):(cB r doc known).1.Register=r∧(cB r doc known).1.doc∈r.Docs∧(cB r doc known).1.doc.No=doc∧(cB r doc known).1.known=known∧jE known=true:=by
 unfold cB at h ⊢
 rw [Bool.cond_eq_ite] at h ⊢
 rcases DZ (fun dX=>bP dX doc) r.Docs 0 with ⟨h1,_⟩ | ⟨a,y,b,h1,h2,h3,_⟩
 ·have:ab r.Docs (fun dX=>bP dX doc)=-1:=h1
  rw [this] at h
  simp at h
 ·have e:ab r.Docs (fun dX=>bP dX doc)=(a.length:Int):=by rw [Nat.zero_add] at h2;exact h2
  have hn:nthI r.Docs (a.length:Int)=y:=jb (by rw [h1];simp)
  rw [e] at h ⊢
  cases ht:jE known with
  | false=>rw [ht] at h;simp at h
  | true=>
   rw [hn]
   have hc:(decide ((a.length:Int) < 0)||!true)=false:=by simp
   rw [hc]
   rw [if_neg (by simp)]
   refine ⟨by cases r;rfl,?_,?_,rfl,rfl⟩
   ·have:y∈r.Docs:=by rw [h1];simp
    cases y;exact this
   ·have h4:y.No=doc:=by simpa [bP] using h3
    exact h4
structure KO (r:Register) (q:aC):Prop where
 reg:q.Register=r
 vers:px r.Versions
 doc:Al q.doc
theorem asked {r:Register} {doc known:Int} (hc:eP r=0) (h:(cB r doc known).2=true):KO r (cB r doc known).1:=by
 obtain ⟨_,_,_,_,h5,h6,_⟩:=(oB r).1 hc
 obtain ⟨h1,h2,_⟩:=Kq h
 exact ⟨h1,(je _).1 h5,sW h6 _ h2⟩
theorem w7 (l0:List Int):∀ (l:List Int) (i:Nat),(aK.L1 l0 [] l i).length≤l.length
 | [],_=>Nat.le_refl _
 | y::l,i=>by
  have ih:=w7 l0 l (i+1)
  simp only [aK.L1,Bool.cond_eq_ite,List.length_cons]
  split <;> split <;> first | omega | (simp only [List.length_cons];omega)
def changeR (q:aC) (l:List Rule) (m:List (Int×Bool)):List (Int×Bool):=l.foldl (fun m x=>mput m (q.doc.At+x.Think) true) m
def changeV (q:aC) (l:List Version) (m:List (Int×Bool)):List (Int×Bool):=l.foldl (fun m v=>changeR q v.Policy.Rules (mput m v.At true)) m
def changeM (q:aC):List (Int×Bool):=
 changeV q q.Register.Versions (q.Register.Interests.foldl (fun m x=>mput m x.At true) (q.Register.Appoints.foldl (fun m x=>mput m x.At true) (mput (mput (mput [] 0 true) q.doc.At true) q.doc.Until true)))
theorem Bk (q:aC) (k:List (Int×Bool)→List Span):∀ l m,aB.L5 q k l m=k (changeR q l m)
 | [],m=>rfl
 | y::l,m=>by simp only [aB.L5,Bk q k l];rfl
theorem Bl (q:aC) (k:List (Int×Bool)→List Span):∀ l m,aB.L3 q k l m=k (changeV q l m)
 | [],m=>rfl
 | y::l,m=>by simp only [aB.L3,Bk,Bl q k l];rfl
theorem Bm (k:List (Int×Bool)→List Span):∀ l m,aB.L2 k l m=k (l.foldl (fun m x=>mput m x.At true) m)
 | [],m=>rfl
 | y::l,m=>by simp only [aB.L2,Bm k l];rfl
theorem Bn (k:List (Int×Bool)→List Span):∀ l m,aB.L1 k l m=k (l.foldl (fun m x=>mput m x.At true) m)
 | [],m=>rfl
 | y::l,m=>by simp only [aB.L1,Bn k l];rfl
theorem Bj (q:aC):aB q=aK (sortI ((changeM q).map Prod.fst)):=by
 unfold aB
 rw [Bn]
 unfold aB.K1
 rw [Bm]
 unfold aB.K2
 rw [Bl]
 rfl
theorem vx {α : Type} (f:α→Int):∀ (l:List α) (m:List (Int×Bool)),(l.foldl (fun m x=>mput m (f x) true) m).length≤m.length+l.length
 | [],m=>Nat.le_refl _
 | y::l,m=>by
  have:=vx f l (mput m (f y) true)
  have:=gr m (f y) true
  simp only [List.foldl_cons,List.length_cons]
  omega
theorem xr (q:aC):∀ (l:List Version) (m:List (Int×Bool)),(∀ v∈l,v.Policy.Rules.length≤16)→(changeV q l m).length≤m.length+17 * l.length
 | [],m,_=>Nat.le_refl _
 | y::l,m,h=>by
  have a:=xr q l (changeR q y.Policy.Rules (mput m y.At true)) (fun v hv=>h v (List.mem_cons_of_mem _ hv))
  have b:=vx (fun x:Rule=>q.doc.At+x.Think) y.Policy.Rules (mput m y.At true)
  have c:=gr m y.At true
  have d:=h y (List.mem_cons_self ..)
  simp only [changeV,List.foldl_cons,List.length_cons] at a ⊢
  simp only [changeR] at a ⊢
  omega
theorem Gx {q:aC} (hsm:smR q.Register) (hov:okV q.Register.Versions):(aB q).length≤5000000:=by
 rw [Bj]
 have h1:=w7 (sortI ((changeM q).map Prod.fst)) (sortI ((changeM q).map Prod.fst)) 0
 rw [hZ,List.length_map] at h1
 unfold aK aK.K1
 have h2:=xr q q.Register.Versions (q.Register.Interests.foldl (fun m x=>mput m x.At true) (q.Register.Appoints.foldl (fun m x=>mput m x.At true) (mput (mput (mput [] 0 true) q.doc.At true) q.doc.Until true))) (fun v hv=>(hov.2 v hv).1.1)
 have h3:=vx (fun x:Interest=>x.At) q.Register.Interests (q.Register.Appoints.foldl (fun m x=>mput m x.At true) (mput (mput (mput [] 0 true) q.doc.At true) q.doc.Until true))
 have h4:=vx (fun x:Appoint=>x.At) q.Register.Appoints (mput (mput (mput [] 0 true) q.doc.At true) q.doc.Until true)
 have h5:=gr (mput (mput ([]:List (Int×Bool)) 0 true) q.doc.At true) q.doc.Until true
 have h6:=gr (mput ([]:List (Int×Bool)) 0 true) q.doc.At true
 have h7:=gr ([]:List (Int×Bool)) 0 true
 have h8:=hsm.2.1
 have h9:=hsm.2.2.2.1
 have h10:=hov.1
 simp only [List.length_nil] at h7
 change (changeM q).length≤_ at h2
 omega
theorem EZ (mode:Int) (l:List Version) (old:Bool):(judgesP mode l old).length≤l.length:=by
 unfold judgesP fI fq fH
 cases mode==1 <;> cases mode==2 <;> cases old <;> simp <;> omega
theorem s9 (k:List Int→List Int×Int×Int):∀ (l:List Version) (g:List Int),ay.L2 k l g=k (g++l.map (·.No))
 | [],g=>by simp [ay.L2]
 | y::l,g=>by simp [ay.L2,s9 k l]
theorem BS (begun at_:Int) (P:List Int×Int×Int→Prop) (n:Nat) (k:Bool→List Version→List Int×Int×Int) (hk:∀ b g,g.length≤n→P (k b g)):∀ (l:List (Int×Version)) b g,g.length+l.length≤n→P (ay.L1 begun at_ k l b g)
 | [],b,g,h=>by simpa [ay.L1] using hk b g (by simpa using h)
 | y::l,b,g,h=>by
  simp only [ay.L1]
  simp only [List.length_cons] at h
  cases decide (at_ < y.1)
  ·exact BS begun at_ P n k hk l _ _ (by simp;omega)
  ·exact hk _ _ (by omega)
theorem E9 (l:List Version) (begun at_ known:Int):(ay l begun at_ known).1.length≤l.length:=by
 unfold ay
 cases (bg l != 0)
 ·cases (((!(eC begun))||(!(eC at_)))||(!(eC known)))||decide (at_ < begun)
  ·simp only [cond_false]
   refine BS begun at_ (fun r=>r.1.length≤l.length) l.length _ ?_ _ _ _ (by have:=xd l begun known;simpa using this)
   intro b g hg
   unfold ay.K1
   cases ((g.length:Int)==0)
   ·simp only [cond_false,s9,ay.K2,List.nil_append,hZ,List.length_map]
    exact Nat.le_trans (EZ _ _ _) hg
   ·simp
  ·simp
 ·simp
theorem mK (no:Int):∀ (l:List Version) (k:Version),bM.L1 no k l=k∨bM.L1 no k l∈l
 | [],k=>.inl rfl
 | y::l,k=>by
  simp only [bM.L1]
  cases y.No==no
  ·rcases mK no l k with h | h
   ·exact .inl h
   ·exact .inr (List.mem_cons_of_mem _ h)
  ·exact .inr (List.mem_cons_self ..)
theorem Ao {r:Register} (h:smR r) (no:Int):smP (bM r no).Policy:=by
 unfold bM
 rcases mK no r.Versions bM.K1 with e | e
 ·rw [e];unfold bM.K1 smP
  refine ⟨by simp,by simp,?_,by simp,by simp⟩
  simp [Expr.dep,Expr.depL]
 ·exact h.vers.2 _ e
theorem Gn:oz=true:=by kernel_rfl
theorem Gm:smR bB:=by simp [smR,smV,smP,bB,Expr.dep,Expr.depL]
theorem I5:smR (Register.mk [] [] [] [] [] [] []):=by simp [smR,smV]
theorem I4:smR (Register.mk [(Appoint.mk 0 0 0 0 0 0 false)] [] [] [] [] [] []):=by simp [smR,smV]
theorem I6 (a b:Interest):smR (Register.mk bB.Appoints bB.Deputies [a,b] bB.Budgets bB.Versions bB.Docs bB.Approvals):=by simp [smR,smV,smP,bB,Expr.dep,Expr.depL]
theorem Hv:smR (Register.mk bB.Appoints bB.Deputies bB.Interests bB.Budgets [] bB.Docs bB.Approvals):=by simp [smR,smV,smP,bB,Expr.dep,Expr.depL]
theorem ml {p:Prop} (h:p:=by first | exact Gm | exact I5 | exact I4 | exact I6 _ _ | exact Hv):p:=h
theorem ui {P:Program} {f:FuncId} {args:List Value} {h:HF} {v v':Value} (t:Ret P f args h v) (e:v=v'):Ret P f args h v':=e ▸ t
structure KZ (r:Register) (doc:Int) (who l:List Int):Prop where
 times:∀ x∈l,0≤x∧x < 1099511627776
 check:gU r=0
 doc0:0≤bp r doc
 people:df who=true
theorem FJ (no:Int):∀ (l:List Document) (i:Nat),0≤bp.L1 no bp.K1 l i→∃ (j:Nat) (d:Document),l[j]? = some d∧d.No=no∧bp.L1 no bp.K1 l i=((i+j:Nat):Int)
 | [],i,h=>by simp [bp.L1,bp.K1] at h
 | y::l,i,h=>by
  simp only [bp.L1,Bool.cond_eq_ite,beq_iff_eq] at h ⊢
  split
  ·next e=>exact ⟨0,y,rfl,e,rfl⟩
  ·next e=>
   rw [if_neg e] at h
   obtain ⟨j,d,h1,h2,h3⟩:=FJ no l (i+1) h
   exact ⟨j+1,d,by simpa using h1,h2,by rw [h3];congr 1;omega⟩
theorem pj {r:Register} {no:Int} (h:0≤bp r no):bp r no < (r.Docs.length:Int)∧nthI r.Docs (bp r no)∈r.Docs∧(nthI r.Docs (bp r no)).No=no:=by
 obtain ⟨j,d,h1,h2,h3⟩:=FJ no r.Docs 0 h
 rw [Nat.zero_add] at h3
 have hl:=(List.getElem?_eq_some_iff.1 h1).1
 have e:bp r no=(j:Int):=h3
 have hb:0≤bp r no∧bp r no < (r.Docs.length:Int):=by omega
 have hg:=bJ hb
 rw [show (bp r no).toNat=j from by omega,h1] at hg
 have hd:=Option.some.inj hg
 exact ⟨hb.2,fm hb,by rw [← hd];exact h2⟩
theorem Er {r:Register} (h:gU r=0):eH r.Appoints=0∧fR r.Deputies=0∧et r.Interests=0∧fQ r.Budgets=0∧cw r.Versions=0∧eZ r.Docs=0∧fP r.Approvals=0:=by
 simp only [gU,Bool.cond_eq_ite,Bool.or_eq_true,bne_iff_ne] at h
 split at h
 ·simp at h
 ·next h1=>
  split at h
  ·simp at h
  ·next h2=>
   simp only [not_or,Classical.not_not] at h1 h2
   exact ⟨h1.1.1.1,h1.1.1.2,h1.1.2,h1.2,h2.1.1,h2.1.2,h2.2⟩
def pcs:List Int→List Span
 | []=>[]
 | [y]=>bif decide (y < 1099511627776) then [⟨y,1099511627776⟩] else []
 | y::z::l=>bif decide (y < min 1099511627776 z) then ⟨y,min 1099511627776 z⟩::pcs (z::l) else pcs (z::l)
theorem HT (L:List Int):∀ (l pre:List Int),L=pre++l→aK.L1 L [] l pre.length=pcs l
 | [],_,_=>rfl
 | [y],pre,h=>by
  have hl:L.length=pre.length+1:=by rw [h];simp
  have e:decide ((((pre.length+1):Nat):Int) < (L.length:Int))=false:=by simp;omega
  simp only [aK.L1,e,cond_false,pcs]
 | y::z::l,pre,h=>by
  have hl:L.length=pre.length+(l.length+2):=by rw [h];simp
  have e:decide ((((pre.length+1):Nat):Int) < (L.length:Int))=true:=by simp;omega
  have hz:nthI L (((pre.length+1):Nat):Int)=z:=by
   have hb:0≤(((pre.length+1):Nat):Int)∧(((pre.length+1):Nat):Int) < (L.length:Int):=by omega
   have hg:=bJ hb
   rw [show ((((pre.length+1):Nat):Int)).toNat=pre.length+1 from by omega,h,List.getElem?_append_right (by omega)] at hg
   simp at hg;rw [h];exact hg.symm
  have ih:=HT L (z::l) (pre++[y]) (by rw [h];simp)
  rw [List.length_append,List.length_cons,List.length_nil,Nat.zero_add] at ih
  simp only [aK.L1] at ih ⊢
  rw [e,hz]
  simp only [cond_true,pcs]
  rw [ih]
theorem J7 (l:List Int):aK l=pcs l:=HT l l [] rfl
def okS:List Span→Int→Prop
 | [],_=>True
 | x::l,c=>c < x.From∧x.From < x.Until∧x.Until≤1099511627776∧okS l x.Until
def lastU:List Span→Int→Int
 | [],c=>c
 | x::l,_=>lastU l x.Until
theorem vk:∀ (a:List Span) (x:Span) (c:Int),okS (a++[x]) c↔okS a c∧lastU a c < x.From∧x.From < x.Until∧x.Until≤1099511627776
 | [],x,c=>by simp [okS,lastU]
 | y::a,x,c=>by
  simp only [List.cons_append,okS,lastU,vk a x y.Until]
  constructor
  ·rintro ⟨a,b,c,d,e⟩;exact ⟨⟨a,b,c,d⟩,e⟩
  ·rintro ⟨⟨a,b,c,d⟩,e⟩;exact ⟨a,b,c,d,e⟩
theorem oA:∀ (a:List Span) (x:Span) (c:Int),lastU (a++[x]) c=x.Until
 | [],x,c=>rfl
 | y::a,x,c=>oA a x y.Until
def inS (s:List Span) (t:Int):Bool:=s.any fun x=>decide (x.From≤t)&&decide (t < x.Until)
theorem zq (a:List Span) (x:Span) (t:Int):inS (a++[x]) t=(inS a t||(decide (x.From≤t)&&decide (t < x.Until))):=by simp [inS]
theorem EU:∀ (a:List Span) (c t:Int),okS a c→lastU a c≤t→c≤lastU a c∧inS a t=false
 | [],c,t,_,_=>⟨Int.le_refl _,rfl⟩
 | x::a,c,t,⟨h1,h2,h3,h4⟩,ht=>by
  obtain ⟨k1,k2⟩:=EU a x.Until t h4 ht
  refine ⟨by simp only [lastU];omega,?_⟩
  simp only [lastU] at ht
  have:decide (t < x.Until)=false:=by simp;omega
  simp only [inS,List.any_cons,this,Bool.and_false,Bool.false_or] at k2 ⊢
  exact k2
structure xP (f:Int→Bool) (acc:List Span) (c:Int):Prop where
 ok:okS acc (-1)
 le:lastU acc (-1)≤c
 pos:0≤c
 is:∀ t,0≤t→t < c→inS acc t=f t
def stepT (f:Int→Bool) (acc:List Span) (s:Span):List Span:=
 bif !(f s.From) then acc else bif decide (0 < (acc.length:Int))&&((nthI acc ((acc.length:Int) - 1)).Until==s.From) then acc.set (((acc.length:Int) - 1):Int).toNat (Span.mk (nthI acc ((acc.length:Int) - 1)).From s.Until) else acc++[s]
theorem xP.step {f:Int→Bool} {acc:List Span} {c u:Int} (g:xP f acc c) (hu:c < u) (hE:u≤1099511627776) (hf:∀ t,c≤t→t < u→f t=f c):xP f (stepT f acc ⟨c,u⟩) u:=by
 have g3:=g.pos
 have hlow:∀ t,c≤t→inS acc t=false:=fun t ht=>(EU acc (-1) t g.ok (Int.le_trans g.le ht)).2
 unfold stepT
 cases hfc:f c with
 | false=>
  refine ⟨g.ok,(by show lastU acc (-1)≤u;have:=g.le;omega),by omega,fun t h0 ht=>?_⟩
  by_cases h:t < c
  ·exact g.is t h0 h
  ·rw [hf t (by omega) ht,hfc];exact hlow t (by omega)
 | true=>
  simp only [Bool.not_true,cond_false]
  rcases List.eq_nil_or_concat acc with rfl | ⟨a,x,e⟩
  ·refine ⟨⟨by show (-1:Int) < c;omega,hu,hE,trivial⟩,Int.le_refl _,by omega,fun t h0 ht=>?_⟩
   have hn:=g.is
   by_cases h:t < c
   ·rw [← g.is t h0 h]
    have:decide (c≤t)=false:=by simp;omega
    show (decide (c≤t)&&decide (t < u)||false)=_
    rw [this];rfl
   ·rw [hf t (by omega) ht,hfc]
    have h1:decide (c≤t)=true:=by simp;omega
    have h2:decide (t < u)=true:=by simpa using ht
    show (decide (c≤t)&&decide (t < u)||false)=_
    rw [h1,h2];rfl
  ·rw [List.concat_eq_append] at e
   subst e
   have hlen:((a++[x]).length:Int) - 1=(a.length:Int):=by simp
   have hx:nthI (a++[x]) (a.length:Int)=x:=by
    have hb:0≤(a.length:Int)∧(a.length:Int) < ((a++[x]).length:Int):=by simp;omega
    have hg:=bJ hb
    rw [show (a.length:Int).toNat=a.length from by omega] at hg
    simpa using hg.symm
   have hset:(a++[x]).set a.length (Span.mk x.From u)=a++[Span.mk x.From u]:=by simp
   have hpos:decide (0 < ((a++[x]).length:Int))=true:=by rw [decide_eq_true_eq];rw [List.length_append,List.length_cons];omega
   have ok':=(vk a x (-1)).1 g.ok
   have le':=g.le
   rw [oA] at le'
   have inx:∀ t,inS a t=false∨t < x.From:=fun t=>by
    by_cases h:lastU a (-1)≤t
    ·exact .inl (EU a (-1) t ok'.1 h).2
    ·exact .inr (by omega)
   rw [hlen,hx,hpos,show (a.length:Int).toNat=a.length from by omega,hset,Bool.true_and]
   cases he:x.Until==c with
   | true=>
    have he':x.Until=c:=by simpa using he
    refine ⟨(vk a _ (-1)).2 ⟨ok'.1,ok'.2.1,by show x.From < u;omega,hE⟩,by rw [show cond true _ _=a++[Span.mk x.From u] from rfl,oA];exact Int.le_refl _,by omega,fun t h0 ht=>?_⟩
    show inS (a++[Span.mk x.From u]) t=f t
    rw [zq]
    by_cases h:t < c
    ·rw [← g.is t h0 h,zq]
     have h1:decide (t < u)=true:=by simp;omega
     have h2:decide (t < x.Until)=true:=by simp;omega
     show (inS a t||(decide (x.From≤t)&&decide (t < u)))=_
     rw [h1,h2]
    ·rw [hf t (by omega) ht,hfc]
     have h1:decide (t < u)=true:=by simpa using ht
     have h2:decide (x.From≤t)=true:=by simp;omega
     show (inS a t||(decide (x.From≤t)&&decide (t < u)))=_
     rw [h1,h2];simp
   | false=>
    have he':x.Until≠c:=by simpa using he
    refine ⟨(vk _ _ (-1)).2 ⟨g.ok,by rw [oA];show x.Until < c;omega,hu,hE⟩,by rw [show cond false _ _=(a++[x])++[Span.mk c u] from rfl,oA];exact Int.le_refl _,by omega,fun t h0 ht=>?_⟩
    show inS ((a++[x])++[Span.mk c u]) t=f t
    rw [zq]
    by_cases h:t < c
    ·rw [← g.is t h0 h]
     have h2:decide (c≤t)=false:=by simp;omega
     show (_||(decide (c≤t)&&decide (t < u)))=_
     rw [h2];simp
    ·rw [hf t (by omega) ht,hfc,hlow t (by omega)]
     have h1:decide (t < u)=true:=by simpa using ht
     have h2:decide (c≤t)=true:=by simp;omega
     show (_||(decide (c≤t)&&decide (t < u)))=_
     rw [h1,h2];rfl
theorem zy {f:Int→Bool}:∀ (y:Int) (l:List Int) (acc:List Span),(y::l).Pairwise (· < ·)→y < 1099511627776→xP f acc y→(∀ t u,y≤t→t≤u→(∀ z∈l,t < z→u < z)→f u=f t)→xP f ((pcs (y::l)).foldl (stepT f) acc) 1099511627776
 | y,[],acc,hp,hy,g,hf=>by
  have:decide (y < 1099511627776)=true:=by simpa using hy
  simp only [pcs,this,cond_true,List.foldl]
  exact g.step hy (Int.le_refl _) fun t h1 h2=>hf y t (Int.le_refl _) h1 (fun z hz=>(List.not_mem_nil hz).elim)
 | y,z::l,acc,hp,hy,g,hf=>by
  obtain ⟨hp1,hp2⟩:=List.pairwise_cons.1 hp
  have hyz:=hp1 z (List.mem_cons_self ..)
  have hz2:=List.pairwise_cons.1 hp2
  have e:decide (y < min 1099511627776 z)=true:=by simp;omega
  have cst:∀ t,y≤t→t < min 1099511627776 z→f t=f y:=fun t h1 h2=>hf y t (Int.le_refl _) h1 (fun w hw _=>by
   rcases List.mem_cons.1 hw with rfl | hw
   ·omega
   ·have:=hz2.1 w hw;omega)
  simp only [pcs,e,cond_true,List.foldl]
  have g2:=g.step (u:=min 1099511627776 z) (by omega) (by omega) cst
  by_cases hzE:z < 1099511627776
  ·rw [show min 1099511627776 z=z from by omega] at g2 ⊢
   exact zy z l _ hp2 hzE g2 fun t u h1 h2 h3=>hf t u (by omega) h2 (fun w hw h4=>by
    rcases List.mem_cons.1 hw with rfl | hw
    ·omega
    ·exact h3 w hw h4)
  ·rw [show min 1099511627776 z=1099511627776 from by omega] at g2 ⊢
   have hnil:∀ (l:List Int) (z:Int),(z::l).Pairwise (· < ·)→¬ z < 1099511627776→pcs (z::l)=[]:=by
    intro l
    induction l with
    | nil=>intro z _ h;simp [pcs,h]
    | cons w l ih=>
     intro z hp h
     have h1:=(List.pairwise_cons.1 hp).1 w (List.mem_cons_self ..)
     have e:decide (z < min 1099511627776 w)=false:=by simp;omega
     simp only [pcs,e,cond_false]
     exact ih w (List.pairwise_cons.1 hp).2 (by omega)
   rw [hnil l z hp2 hzE]
   exact g2
theorem Ag (r:Register) (doc:Int) (who:List Int) (known:Int):∀ (ps acc:List Span),
  cZ.L1 r doc who known cZ.K1 ps acc=(ps.foldl (stepT (aP (cB r doc known).1 who)) acc,0)
 | [],acc=>rfl
 | p::ps,acc=>by
  simp only [cZ.L1,List.foldl_cons,Ag r doc who known ps]
  unfold stepT
  cases aP (cB r doc known).1 who p.From
  ·rfl
  ·simp only [Bool.not_true,cond_false]
   cases (decide (0 < (acc.length:Int))&&((nthI acc ((acc.length:Int) - 1)).Until==p.From)) <;> rfl
theorem sV {α : Type} (g:α→Int):∀ (l:List α) (m:List (Int×Bool)) (x:Int),x∈(l.foldl (fun m y=>mput m (g y) true) m).map (·.1)↔x∈m.map (·.1)∨∃ y∈l,x=g y
 | [],m,x=>by simp
 | y::l,m,x=>by
  rw [List.foldl_cons,sV g l,jC]
  simp only [List.mem_cons,exists_eq_or_imp]
  constructor
  ·rintro ((h | h) | h)
   ·exact .inr (.inl h)
   ·exact .inl h
   ·exact .inr (.inr h)
  ·rintro (h | h | h)
   ·exact .inl (.inr h)
   ·exact .inl (.inl h)
   ·exact .inr h
theorem qU {α : Type} (g:α→Int):∀ (l:List α) (m:List (Int×Bool)),(m.map (·.1)).Nodup→((l.foldl (fun m y=>mput m (g y) true) m).map (·.1)).Nodup
 | [],m,h=>h
 | y::l,m,h=>qU g l _ (gS _ _ h)
theorem vI (q:aC):∀ (l:List Version) (m:List (Int×Bool)) (x:Int),x∈(changeV q l m).map (·.1)↔x∈m.map (·.1)∨∃ v∈l,x=v.At∨∃ y∈v.Policy.Rules,x=q.doc.At+y.Think
 | [],m,x=>by simp [changeV]
 | v::l,m,x=>by
  show x∈(changeV q l (changeR q v.Policy.Rules (mput m v.At true))).map (·.1)↔_
  rw [vI q l]
  unfold changeR
  rw [sV,jC]
  simp only [List.mem_cons,exists_eq_or_imp]
  constructor
  ·rintro (((h | h) | h) | h)
   ·exact .inr (.inl (.inl h))
   ·exact .inl h
   ·exact .inr (.inl (.inr h))
   ·exact .inr (.inr h)
  ·rintro (h | (h | h) | h)
   ·exact .inl (.inl (.inr h))
   ·exact .inl (.inl (.inl h))
   ·exact .inl (.inr h)
   ·exact .inr h
theorem tX (q:aC):∀ (l:List Version) (m:List (Int×Bool)),(m.map (·.1)).Nodup→((changeV q l m).map (·.1)).Nodup
 | [],m,h=>h
 | v::l,m,h=>tX q l _ (qU _ _ _ (gS _ _ h))
def Change (q:aC) (x:Int):Prop:=
 x=0∨x=q.doc.At∨x=q.doc.Until∨(∃ a∈q.Register.Appoints,x=a.At)∨(∃ a∈q.Register.Interests,x=a.At)∨∃ v∈q.Register.Versions,x=v.At∨∃ y∈v.Policy.Rules,x=q.doc.At+y.Think
theorem Ev (q:aC) (x:Int):x∈(changeM q).map (·.1)↔Change q x:=by
 unfold changeM Change
 rw [vI,sV (fun a:Interest=>a.At),sV (fun a:Appoint=>a.At),jC,jC,jC]
 simp only [List.map_nil,List.not_mem_nil,or_false]
 generalize (∃ y,y∈q.Register.Appoints∧x=y.At)=A
 generalize (∃ y,y∈q.Register.Interests∧x=y.At)=B
 generalize (∃ v,v∈q.Register.Versions∧(x=v.At∨∃ y,y∈v.Policy.Rules∧x=q.doc.At+y.Think))=C
 constructor
 ·rintro ((((h | h | h) | h) | h) | h) <;> simp [h]
 ·rintro (h | h | h | h | h | h) <;> simp [h]
theorem CE (q:aC):((changeM q).map (·.1)).Nodup:=by
 unfold changeM
 exact tX q _ _ (qU _ _ _ (qU _ _ _ (gS _ _ (gS _ _ (gS _ _ List.nodup_nil)))))
theorem sK {l:List Int} (h:l.Pairwise (·≤·)) (hn:l.Nodup):l.Pairwise (· < ·):=by
 induction l with
 | nil=>exact List.Pairwise.nil
 | cons x l ih=>
  rw [List.pairwise_cons] at h ⊢
  rw [List.nodup_cons] at hn
  exact ⟨fun y hy=>by have:=h.1 y hy;have:x≠y:=fun e=>hn.1 (e ▸ hy);omega,ih h.2 hn.2⟩
theorem D1 {q:aC} {f:Int→Bool} (hpos:∀ x,Change q x→0≤x) (hf:∀ t u,0≤t→t≤u→(∀ z,Change q z→t < z→u < z)→f u=f t):
  xP f ((aB q).foldl (stepT f) []) 1099511627776:=by
 rw [Bj,J7]
 have hs:=jT ((changeM q).map Prod.fst)
 have hp:=iX ((changeM q).map Prod.fst)
 have hn:(sortI ((changeM q).map Prod.fst)).Nodup:=hp.nodup_iff.2 (CE q)
 have hm:∀ x,x∈sortI ((changeM q).map Prod.fst)↔Change q x:=fun x=>(hp.mem_iff).trans (Ev q x)
 generalize sortI ((changeM q).map Prod.fst)=pts at *
 cases pts with
 | nil=>exact absurd ((hm 0).2 (.inl rfl)) (by simp)
 | cons y l=>
  have h0:y=0:=by
   have h1:=hpos y ((hm y).1 (List.mem_cons_self ..))
   rcases List.mem_cons.1 ((hm 0).2 (.inl rfl)) with h | h
   ·exact h.symm
   ·have:=(List.pairwise_cons.1 hs).1 0 h;omega
  subst h0
  refine zy 0 l [] (sK hs hn) (by decide) ⟨trivial,by show (-1:Int)≤0;decide,by decide,fun t h1 h2=>by omega⟩ fun t u h1 h2 h3=>hf t u h1 h2 fun z hz h4=>?_
  rcases List.mem_cons.1 ((hm z).2 hz) with rfl | hz'
  ·omega
  ·exact h3 z hz' h4
theorem tE {t u known:Int} (k:List (cm×Interest)→List Interest):∀ (l:List Interest) (m:List (cm×Interest)),(∀ y∈l,(t < y.At↔u < y.At))→bu.L1 t known k l m=bu.L1 u known k l m
 | [],m,_=>rfl
 | y::l,m,h=>by
  have e:decide (t < y.At)=decide (u < y.At):=by simp [h y (List.mem_cons_self ..)]
  have ih:=fun m=>tE (known:=known) k l m (fun z hz=>h z (List.mem_cons_of_mem _ hz))
  simp only [bu.L1,e,ih]
theorem tV {l:List Interest} {p:Int} {ps:List Int} {t u known:Int} (ht:0≤t∧t < 1099511627776) (hu:0≤u∧u < 1099511627776) (h:∀ y∈l,(t < y.At↔u < y.At)):cX l p ps t known=cX l p ps u known:=by
 have e1:bu l t known=bu l u known:=tE _ l [] h
 have e2:aO t 1099511627776=aO u 1099511627776:=by simp [aO,ht,hu]
 have e3:bq l p ps t known=bq l p ps u known:=by
  unfold bq
  have:bq.K1 p ps t known=bq.K1 p ps u known:=by funext g;unfold bq.K1;rw [e2]
  rw [this]
 unfold cX
 rw [e1,e3]
theorem BB {t u known:Int} (later:Appoint→Appoint→Bool) (k:List (OSeat×Appoint)→List (OSeat×Appoint)):∀ (l:List Appoint) (m:List (OSeat×Appoint)),(∀ y∈l,(t < y.At↔u < y.At))→bE.L1 (fun dX=>dE dX t known) later k l m=bE.L1 (fun dX=>dE dX u known) later k l m
 | [],m,_=>rfl
 | y::l,m,h=>by
  have e:dE y t known=dE y u known:=by
   have h1:=h y (List.mem_cons_self ..)
   have:decide (y.At≤t)=decide (y.At≤u):=by
    have:y.At≤t↔y.At≤u:=by omega
    simp [this]
   simp only [dE,this]
  have ih:=fun m=>BB (known:=known) later k l m (fun z hz=>h z (List.mem_cons_of_mem _ hz))
  simp only [bE.L1,e,ih]
theorem vO {l:List Appoint} {o t u known:Int} (ht:0≤t∧t < 1099511627776) (hu:0≤u∧u < 1099511627776) (h:∀ y∈l,(t < y.At↔u < y.At)):dc l o t known=dc l o u known:=by
 have e1:dV l t known=dV l u known:=BB _ _ l [] h
 have e2:cN t=cN u:=by
  have h1:∀ x:Int,0≤x∧x < 1099511627776→cN x=true:=fun x hx=>by simp only [cN,dv,Bool.and_eq_true,decide_eq_true_eq];omega
  rw [h1 t ht,h1 u hu]
 unfold dc
 rw [e1,e2]
theorem xy {l:List Version} {begun t u known:Int} (ht:0≤t∧t < 1099511627776) (hu:0≤u∧u < 1099511627776) (hb:t < begun↔u < begun) (h:∀ y∈l,(t < y.At↔u < y.At)):ay l begun t known=ay l begun u known:=by
 have L:∀ (k:Bool→List Version→List Int×Int×Int) (ps:List (Int×Version)) b g,(∀ p∈ps,(t < p.1↔u < p.1))→ay.L1 begun t k ps b g=ay.L1 begun u k ps b g:=by
  intro k ps
  induction ps with
  | nil=>intros;rfl
  | cons p ps ih=>
   intro b g hp
   have e:decide (t < p.1)=decide (u < p.1):=by simp [hp p (List.mem_cons_self ..)]
   simp only [ay.L1,e,ih _ _ (fun z hz=>hp z (List.mem_cons_of_mem _ hz))]
 have e2:eC t=eC u:=by simp [eC,ht,hu]
 have e3:decide (t < begun)=decide (u < begun):=by simp [hb]
 unfold ay
 rw [e2,e3,L _ _ _ _ (ss (fun p=>(t < p.1↔u < p.1)) (fun y _ _=>hb) (fun y hy _=>h y hy))]
theorem CC {q:aC} (who:List Int) (hU:q.doc.Until≤1099511627776) (hk:0≤q.doc.Kind) {t u:Int} (h0:0≤t) (htu:t≤u) (hs:∀ z,Change q z→t < z→u < z):aP q who u=aP q who t:=by
 have hs':∀ z,Change q z→(t < z↔u < z):=fun z hz=>⟨hs z hz,fun h=>by omega⟩
 have hA:=hs' q.doc.At (.inr (.inl rfl))
 have hUn:=hs' q.doc.Until (.inr (.inr (.inl rfl)))
 have hap:∀ y∈q.Register.Appoints,(t < y.At↔u < y.At):=fun y hy=>hs' _ (.inr (.inr (.inr (.inl ⟨y,hy,rfl⟩))))
 have hin:∀ y∈q.Register.Interests,(t < y.At↔u < y.At):=fun y hy=>hs' _ (.inr (.inr (.inr (.inr (.inl ⟨y,hy,rfl⟩)))))
 have hve:∀ y∈q.Register.Versions,(t < y.At↔u < y.At):=fun y hy=>hs' _ (.inr (.inr (.inr (.inr (.inr ⟨y,hy,.inl rfl⟩)))))
 have hru:∀ v∈q.Register.Versions,∀ y∈v.Policy.Rules,(t < q.doc.At+y.Think↔u < q.doc.At+y.Think):=fun v hv y hy=>hs' _ (.inr (.inr (.inr (.inr (.inr ⟨v,hv,.inr ⟨y,hy,rfl⟩⟩)))))
 have hd:(decide (u < q.doc.At)||decide (q.doc.Until≤u))=(decide (t < q.doc.At)||decide (q.doc.Until≤t)):=by
  have h1:decide (u < q.doc.At)=decide (t < q.doc.At):=by simp [hA]
  have h2:decide (q.doc.Until≤u)=decide (q.doc.Until≤t):=by
   have:q.doc.Until≤u↔q.doc.Until≤t:=by omega
   simp [this]
  rw [h1,h2]
 unfold aP
 rw [hd]
 cases hc:(decide (t < q.doc.At)||decide (q.doc.Until≤t)) with
 | true=>rfl
 | false=>
  simp only [Bool.or_eq_false_iff,decide_eq_false_iff_not] at hc
  have ht:0≤t∧t < 1099511627776:=by omega
  have hu:0≤u∧u < 1099511627776:=by omega
  simp only [cond_false]
  have ej:ao q u=ao q t:=by
   have e:=xy (l:=q.Register.Versions) (begun:=q.doc.At) (known:=q.known) ht hu hA hve
   have L:∀ (l:List Version) (g:List Policy),ao.L1 q u (ao.K1 q u) l g=ao.L1 q t (ao.K1 q t) l g:=by
    intro l g
    rw [mw,mw,e]
   unfold ao
   rw [← e,L]
  have eh:∀ p,av q p u=av q p t:=fun p=>by
   rw [lq,lq]
   exact List.map_congr_left fun j _=>by rw [vO (known:=q.known) (o:=(j:Int)) ht hu hap]
  have ec:(fun dX=>aS dX q u)=(fun dX=>aS dX q t):=by
   funext a
   unfold aS
   rw [tV (p:=a) (ps:=q.doc.Parties) (known:=q.known) ht hu hin]
  have ek:aP.K1 q u=aP.K1 q t:=by
   funext g
   unfold aP.K1
   rw [ej]
  rw [ej,ek]
  have L:∀ (k:List Bool→Bool) (l:List Policy) (g:List Bool),(∀ p∈l,∃ v∈q.Register.Versions,v.Policy=p)→0≤q.doc.Kind→aP.L1 q who u k l g=aP.L1 q who t k l g:=by
   intro k l
   induction l with
   | nil=>intros;rfl
   | cons p l ih=>
    intro g hl hk
    obtain ⟨v,hv,hvp⟩:=hl p (List.mem_cons_self ..)
    have e:(decide (q.doc.Kind < (p.Rules.length:Int))&&decide ((q.doc.At+(nthI p.Rules q.doc.Kind).Think)≤u))=(decide (q.doc.Kind < (p.Rules.length:Int))&&decide ((q.doc.At+(nthI p.Rules q.doc.Kind).Think)≤t)):=by
     by_cases hkl:q.doc.Kind < (p.Rules.length:Int)
     ·have:=hru v hv (nthI p.Rules q.doc.Kind) (by rw [hvp];exact fm ⟨hk,hkl⟩)
      have h2:(q.doc.At+(nthI p.Rules q.doc.Kind).Think≤u)↔(q.doc.At+(nthI p.Rules q.doc.Kind).Think≤t):=by omega
      simp [h2]
     ·simp [hkl]
    simp only [aP.L1,e,eh,ec,ih _ (fun z hz=>hl z (List.mem_cons_of_mem _ hz)) hk]
  exact L _ _ _ (fun p hp=>qI hp) hk
section chk
variable {α : Type} [Inhabited α]
def refChk (R:α→Bool) (no:α→Int) (c:Int) (L:List α):List α→Nat→Int
 | [],_=>0
 | y::l,i=>bif (!(R y))||(decide (0 < (i:Int))&&decide (no y≤no (nthI L ((i:Int) - 1)))) then c else refChk R no c L l (i+1)
def prgChk (R:α→Bool) (no:α→Int) (c:Int):List α→Int→Int
 | [],_=>0
 | y::l,g=>bif (!(R y))||decide (no y≤g) then c else prgChk R no c l (no y)
theorem Ep (R:α→Bool) (no:α→Int) (c:Int) (L:List α):∀ (l pre:List α) (x:α),L=(pre++[x])++l→refChk R no c L l (pre.length+1)=prgChk R no c l (no x)
 | [],_,_,_=>rfl
 | y::l,pre,x,h=>by
  have hx:nthI L (((pre.length+1:Nat):Int) - 1)=x:=by
   have hb:0≤(((pre.length+1:Nat):Int) - 1)∧(((pre.length+1:Nat):Int) - 1) < (L.length:Int):=by rw [h];simp;omega
   have hg:=bJ hb
   rw [show ((((pre.length+1:Nat):Int) - 1)).toNat=pre.length from by omega,h] at hg
   rw [h];simpa using hg.symm
  have hd:decide (0 < ((pre.length+1:Nat):Int))=true:=by rw [decide_eq_true_eq];omega
  have ih:=Ep R no c L l (pre++[x]) y (by rw [h];simp)
  rw [List.length_append,List.length_cons,List.length_nil,Nat.zero_add] at ih
  simp only [refChk,prgChk,hx,hd,Bool.true_and,ih]
theorem zZ (R:α→Bool) (no:α→Int) (c:Int) (hR:∀ y,R y=true→0≤no y) (l:List α):refChk R no c l l 0=prgChk R no c l (-1):=by
 cases l with
 | nil=>rfl
 | cons y l=>
  have ih:=Ep R no c (y::l) l [] y rfl
  simp only [List.length_nil,Nat.zero_add] at ih
  simp only [refChk,prgChk,Nat.zero_add,ih]
  cases hr:R y with
  | false=>rfl
  | true=>
   have:decide (no y≤-1)=false:=by have:=hR y hr;simp;omega
   rw [this];rfl
end chk
theorem ns (l:List Appoint):co l=eH l:=by
 have hR:∀ x,jB x=gW x:=fun x=>by
  rw [Bool.eq_iff_iff]
  simp only [jB,gW,Bool.cond_eq_ite]
  cases x.Gone <;> simp only [if_true,if_false,Bool.false_eq_true,Bool.and_eq_true,Bool.or_eq_true,Bool.not_eq_true',decide_eq_true_eq,decide_eq_false_iff_not,beq_iff_eq,dv,cN,e6,gf,ib,jx,lJ,Bool.and_eq_false_iff]
   <;> (split <;> simp only [Bool.false_eq_true,iff_false,decide_eq_true_eq,Bool.and_eq_true,beq_iff_eq] <;> omega)
 have h1:∀ (L l:List Appoint) i,eH.L1 L eH.K1 l i=refChk gW (·.No) 150 L l i:=by
  intro L l
  induction l with
  | nil=>intro i;rfl
  | cons y l ih=>intro i;simp only [eH.L1,refChk,ih]
 have h2:∀ (l:List Appoint) g,co.L1 co.K1 l g=prgChk gW (·.No) 150 l g:=by
  intro l
  induction l with
  | nil=>intro g;rfl
  | cons y l ih=>intro g;simp only [co.L1,prgChk,ih,hR]
 unfold co eH
 rw [h1,h2,zZ]
 intro y hy
 simp only [gW,Bool.cond_eq_ite] at hy
 split at hy
 ·cases hy
 ·next h=>simp only [Bool.or_eq_true,not_or,decide_eq_true_eq] at h;omega
theorem vB (l:List Deputy):dj l=fR l:=by
 have hR:∀ x,kv x=io x:=fun x=>by
  rw [Bool.eq_iff_iff]
  simp only [kv,io,Bool.cond_eq_ite,eV,iO,gX,fU,lm,jX]
  generalize (!(decide (0≤x.No)&&decide (x.No≤1048576))||!(decide (0≤x.At)&&decide (x.At≤1099511627775))||!(decide (0≤x.Known)&&decide (x.Known≤1099511627775))||!(decide (0≤x.From)&&decide (x.From≤63))||!(decide (0≤x.To)&&decide (x.To≤63))||x.From==x.To)=A
  cases A <;> simp
 have h1:∀ (L l:List Deputy) i,fR.L1 L fR.K1 l i=refChk io (·.No) 160 L l i:=by
  intro L l
  induction l with
  | nil=>intro i;rfl
  | cons y l ih=>intro i;simp only [fR.L1,refChk,ih]
 have h2:∀ (l:List Deputy) g,dj.L1 dj.K1 l g=prgChk io (·.No) 160 l g:=by
  intro l
  induction l with
  | nil=>intro g;rfl
  | cons y l ih=>intro g;simp only [dj.L1,prgChk,ih,hR]
 unfold dj fR
 rw [h1,h2,zZ]
 intro y hy
 simp only [io,Bool.cond_eq_ite] at hy
 split at hy
 ·cases hy
 ·next h=>simp only [Bool.or_eq_true,not_or,decide_eq_true_eq,fU,Bool.not_eq_true',Bool.and_eq_false_iff,decide_eq_false_iff_not] at h;omega
theorem kQ (l:List Interest):bK l=et l:=by
 have hR:∀ x,jp x=gV x:=fun x=>by
  rw [Bool.eq_iff_iff]
  simp only [jp,gV,Bool.cond_eq_ite,aO,ia,gD,jU]
  cases x.Of <;> simp only [if_true,if_false,Bool.false_eq_true,Bool.and_eq_true,Bool.or_eq_true,Bool.not_eq_true',decide_eq_true_eq,decide_eq_false_iff_not,bne_iff_ne,Bool.and_eq_false_iff]
   <;> (split <;> simp only [Bool.false_eq_true,iff_false,decide_eq_true_eq,Bool.and_eq_true,bne_iff_ne] <;> omega)
 have h1:∀ (L l:List Interest) i,et.L1 L et.K1 l i=refChk gV (·.No) 290 L l i:=by
  intro L l
  induction l with
  | nil=>intro i;rfl
  | cons y l ih=>intro i;simp only [et.L1,refChk,ih]
 have h2:∀ (l:List Interest) g,bK.L1 bK.K1 l g=prgChk gV (·.No) 290 l g:=by
  intro l
  induction l with
  | nil=>intro g;rfl
  | cons y l ih=>intro g;simp only [bK.L1,prgChk,ih,hR]
 unfold bK et
 rw [h1,h2,zZ]
 intro y hy
 simp only [gV,Bool.cond_eq_ite] at hy
 split at hy
 ·cases hy
 ·next h=>simp only [Bool.or_eq_true,not_or,decide_eq_true_eq] at h;omega
theorem xe (f:Int→Bool):∀ (l:List Int) (i:Nat),decide (0≤bT.L1 f bT.K1 l i)=l.any f
 | [],i=>by simp [bT.L1,bT.K1]
 | y::l,i=>by
  have ih:=xe f l (i+1)
  simp only [bT.L1,List.any_cons]
  by_cases hf:f y=true
  ·simp [hf]
  ·simp only [Bool.not_eq_true] at hf
   simp only [hf,cond_false,Bool.false_or]
   exact ih
theorem containsF (l:List Int) (f:Int→Bool):cU l f=l.any f:=xe f l 0
theorem xw (l:List Budget):dl l=fQ l:=by
 have hR:∀ x,kR x=im x:=fun x=>by
  rw [Bool.eq_iff_iff]
  simp only [kR,im,Bool.cond_eq_ite,bL,containsF,iI,List.any_cons,List.any_nil,Bool.or_false,gu,jW]
  cases x.Gone <;> simp only [if_true,if_false,Bool.false_eq_true,Bool.and_eq_true,Bool.or_eq_true,Bool.not_eq_true',decide_eq_true_eq,decide_eq_false_iff_not,beq_iff_eq,Bool.and_eq_false_iff,Bool.or_eq_false_iff]
   <;> (split <;> simp only [Bool.false_eq_true,iff_false,decide_eq_true_eq,Bool.and_eq_true,beq_iff_eq] <;> omega)
 have h1:∀ (L l:List Budget) i,fQ.L1 L fQ.K1 l i=refChk im (·.No) 180 L l i:=by
  intro L l
  induction l with
  | nil=>intro i;rfl
  | cons y l ih=>intro i;simp only [fQ.L1,refChk,ih]
 have h2:∀ (l:List Budget) g,dl.L1 dl.K1 l g=prgChk im (·.No) 180 l g:=by
  intro l
  induction l with
  | nil=>intro g;rfl
  | cons y l ih=>intro g;simp only [dl.L1,prgChk,ih,hR]
 unfold dl fQ
 rw [h1,h2,zZ]
 intro y hy
 simp only [im,Bool.cond_eq_ite] at hy
 split at hy
 ·cases hy
 ·next h=>simp only [Bool.or_eq_true,not_or,decide_eq_true_eq,gu,Bool.not_eq_true',Bool.and_eq_false_iff,decide_eq_false_iff_not] at h;omega
theorem ua (l:List Approval):cp l=fP l:=by
 have hR:∀ x,jR x=ij x:=fun x=>by
  rw [Bool.eq_iff_iff]
  simp only [jR,ij,Bool.cond_eq_ite,dW,containsF,ie,List.any_cons,List.any_nil,Bool.or_false,fx,lk,n0]
  simp only [Bool.and_eq_true,Bool.or_eq_true,Bool.not_eq_true',decide_eq_true_eq,decide_eq_false_iff_not,Bool.and_eq_false_iff,Bool.or_eq_false_iff]
  split <;> simp only [Bool.false_eq_true,iff_false,decide_eq_true_eq,Bool.and_eq_true] <;> omega
 have h1:∀ (L l:List Approval) i,fP.L1 L fP.K1 l i=refChk ij (·.No) 280 L l i:=by
  intro L l
  induction l with
  | nil=>intro i;rfl
  | cons y l ih=>intro i;simp only [fP.L1,refChk,ih]
 have h2:∀ (l:List Approval) g,cp.L1 cp.K1 l g=prgChk ij (·.No) 280 l g:=by
  intro l
  induction l with
  | nil=>intro g;rfl
  | cons y l ih=>intro g;simp only [cp.L1,prgChk,ih,hR]
 unfold cp fP
 rw [h1,h2,zZ]
 intro y hy
 simp only [ij,Bool.cond_eq_ite] at hy
 split at hy
 ·cases hy
 ·next h=>simp only [Bool.or_eq_true,not_or,decide_eq_true_eq,fx,Bool.not_eq_true',Bool.and_eq_false_iff,decide_eq_false_iff_not] at h;omega
def refLs (B:Int→Bool) (L:List Int) (k:Bool):List Int→Nat→Bool
 | [],_=>k
 | y::l,i=>bif (B y)||(decide (0 < (i:Int))&&decide (y≤nthI L ((i:Int) - 1))) then false else refLs B L k l (i+1)
theorem yF (B:Int→Bool) (L:List Int) (k:Bool):∀ (l pre:List Int) (x:Int),L=(pre++[x])++l→refLs B L k l (pre.length+1)=true→((∀ y∈l,B y=false)∧k=true)∧(x::l).Pairwise (· < ·)
 | [],_,_,_,h=>⟨⟨fun _ h=>(List.not_mem_nil h).elim,h⟩,by simp⟩
 | y::l,pre,x,h,hr=>by
  have hx:nthI L (((pre.length+1:Nat):Int) - 1)=x:=by
   have hb:0≤(((pre.length+1:Nat):Int) - 1)∧(((pre.length+1:Nat):Int) - 1) < (L.length:Int):=by rw [h];simp;omega
   have hg:=bJ hb
   rw [show ((((pre.length+1:Nat):Int) - 1)).toNat=pre.length from by omega,h] at hg
   rw [h];simpa using hg.symm
  simp only [refLs,hx,Bool.cond_eq_ite] at hr
  split at hr
  ·cases hr
  ·next hc=>
   simp only [Bool.or_eq_true,Bool.and_eq_true,decide_eq_true_eq,not_or] at hc
   have ih:=yF B L k l (pre++[x]) y (by rw [h];simp)
   rw [List.length_append,List.length_cons,List.length_nil,Nat.zero_add] at ih
   obtain ⟨⟨i1,i2⟩,i3⟩:=ih hr
   have hxy:x < y:=by omega
   refine ⟨⟨fun z hz=>?_,i2⟩,List.pairwise_cons.2 ⟨fun z hz=>?_,i3⟩⟩
   ·rcases List.mem_cons.1 hz with rfl | hz
    ·simpa using hc.1
    ·exact i1 z hz
   ·rcases List.mem_cons.1 hz with rfl | hz
    ·exact hxy
    ·have:=(List.pairwise_cons.1 i3).1 z hz;omega
theorem yE {B:Int→Bool} {k:Bool} {l:List Int} (h:refLs B l k l 0=true):((∀ y∈l,B y=false)∧k=true)∧l.Pairwise (· < ·):=by
 cases l with
 | nil=>exact ⟨⟨fun _ h=>(List.not_mem_nil h).elim,h⟩,List.Pairwise.nil⟩
 | cons y l=>
  simp only [refLs,Bool.cond_eq_ite] at h
  split at h
  ·cases h
  ·next hc=>
   simp only [Bool.or_eq_true,not_or] at hc
   obtain ⟨⟨i1,i2⟩,i3⟩:=yF B (y::l) k l [] y rfl h
   refine ⟨⟨fun z hz=>?_,i2⟩,i3⟩
   rcases List.mem_cons.1 hz with rfl | hz
   ·simpa using hc.1
   ·exact i1 z hz
theorem yD {l:List Int} {limit:Int} (h:dS l limit=true):((∀ x∈l,0≤x∧x < limit)∧l.Pairwise (· < ·))∧l.length≤16:=by
 have e:∀ (L l:List Int) i,dS.L1 L limit (dS.K1 L) l i=refLs (fun y=>decide (y < 0)||decide (limit≤y)) L (dS.K1 L) l i:=by
  intro L l
  induction l with
  | nil=>intro i;rfl
  | cons y l ih=>intro i;simp only [dS.L1,refLs,ih]
 unfold dS at h
 rw [e] at h
 obtain ⟨⟨h1,h2⟩,h3⟩:=yE h
 refine ⟨⟨fun x hx=>?_,h3⟩,?_⟩
 ·have:=h1 x hx;simp only [Bool.or_eq_false_iff,decide_eq_false_iff_not] at this;omega
 ·simp only [dS.K1,decide_eq_true_eq] at h2;omega
theorem EP {l:List Int} (h:df l=true):(∀ x∈l,0≤x∧x < 64)∧l.Pairwise (· < ·):=by
 have e:∀ (L l:List Int) i,df.L1 L df.K1 l i=refLs (fun y=>decide (y < 0)||decide (64≤y)) L true l i:=by
  intro L l
  induction l with
  | nil=>intro i;rfl
  | cons y l ih=>intro i;simp only [df.L1,refLs,ih]
 unfold df at h
 rw [e] at h
 obtain ⟨⟨h1,h2⟩,h3⟩:=yE h
 refine ⟨fun x hx=>?_,h3⟩
 have:=h1 x hx;simp only [Bool.or_eq_false_iff,decide_eq_false_iff_not] at this;omega
theorem Di {d:Document} (h:gL d=true):Al d:=by
 simp only [gL,Bool.cond_eq_ite] at h
 split at h
 ·cases h
 ·next hc=>
  simp only [Bool.or_eq_true,not_or,decide_eq_true_eq,mn,Bool.not_eq_true',Bool.and_eq_false_iff,decide_eq_false_iff_not] at hc
  simp only [Bool.and_eq_true,decide_eq_true_eq] at h
  obtain ⟨⟨⟨⟨⟨h1,h2⟩,h3⟩,h4⟩,h5⟩,h6⟩:=h
  exact ⟨by omega,by omega,by omega,by omega,⟨h1,h2⟩,h3,yD h4,yD h5,yD h6⟩
theorem yp (L:List Document):∀ (l:List Document) (i:Nat) (m:List (Int×Int)),(bi.L1 (bi.K1 L) l i m).docs=L∧∀ x,mhas (bi.L1 (bi.K1 L) l i m).at_ x=(mhas m x||l.any fun d=>d.No==x)
 | [],i,m=>⟨rfl,fun x=>by simp [bi.L1,bi.K1]⟩
 | y::l,i,m=>by
  obtain ⟨h1,h2⟩:=yp L l (i+1) (mput m y.No (i:Int))
  refine ⟨h1,fun x=>?_⟩
  show mhas (bi.L1 (bi.K1 L) l (i+1) (mput m y.No (i:Int))).at_ x=_
  rw [h2 x,List.any_cons]
  have:mhas (mput m y.No (i:Int)) x=(mhas m x||y.No==x):=by
   unfold mhas
   rw [jQ]
   by_cases e:x=y.No
   ·subst e;simp
   ·rw [if_neg e]
    have:(y.No==x)=false:=by simp;exact fun h=>e h.symm
    rw [this,Bool.or_false]
  rw [this,Bool.or_assoc]
theorem xj (no:Int):∀ (l:List Document) (i:Nat),0≤fD.L1 no fD.K1 l i→(l.any fun d=>d.No==no)=true
 | [],i,h=>by simp [fD.L1,fD.K1] at h
 | y::l,i,h=>by
  simp only [fD.L1,Bool.cond_eq_ite] at h
  rw [List.any_cons]
  by_cases e:(y.No==no)=true
  ·rw [e];rfl
  ·rw [if_neg e] at h
   rw [xj no l (i+1) h,Bool.or_true]
theorem AX (L:List Document):∀ nos:List Int,cE.L1 L cE.K1 nos=true→∀ x∈nos,(L.any fun d=>d.No==x)=true
 | [],_=>fun _ h=>(List.not_mem_nil h).elim
 | y::nos,h=>by
  simp only [cE.L1,Bool.cond_eq_ite,decide_eq_true_eq] at h
  split at h
  ·cases h
  ·next hc=>
   intro x hx
   rcases List.mem_cons.1 hx with rfl | hx
   ·exact xj x L 0 (by unfold fD at hc;omega)
   ·exact AX L nos h x hx
theorem Kj {L:List Document} {d:Document} (h1:cE L d.Revokes=true) (h2:cE L d.Needs=true):dT (bi L) d=true:=by
 have hs:=(yp L L 0 []).2
 have key:∀ nos,cE L nos=true→cU nos (fun dX=>dI dX (bi L))=false:=by
  intro nos hn
  rw [containsF,List.any_eq_false]
  intro x hx
  unfold dI
  have:=AX L nos hn x hx
  have e:mhas (bi L).at_ x=true:=by
   show mhas (bi.L1 (bi.K1 L) L 0 []).at_ x=true
   rw [hs x,this,Bool.or_true]
  rw [e];simp
 unfold dT
 rw [key _ h1,key _ h2];rfl
theorem AJ {l:List Document} (h:eZ l=0):bH l=0:=by
 have L:∀ (L l:List Document) (i:Nat),eZ.L1 L eZ.K1 l i=0→bH.L1 L bH.K1 l i=0:=by
  intro L l
  induction l with
  | nil=>intros;rfl
  | cons y l ih=>
   intro i h
   simp only [eZ.L1,Bool.cond_eq_ite] at h
   split at h
   ·omega
   ·next hc=>
    simp only [Bool.or_eq_true,not_or,Bool.not_eq_true',Bool.not_eq_false,Bool.not_eq_true] at hc
    obtain ⟨⟨⟨c1,c2⟩,c3⟩,c4⟩:=hc
    simp only [bH.L1,(Dj y).2 (Di c1),c2,Kj c3 c4,Bool.not_true,Bool.or_false,cond_false]
    exact ih (i+1) h
 unfold eZ at h
 unfold bH
 rw [Bool.cond_eq_ite] at h ⊢
 split at h
 ·omega
 ·next hc=>rw [if_neg hc];exact L l l 0 h
theorem askIdx (no:Int):∀ (l:List Document) (i:Nat),ab.L1 (fun dX=>bP dX no) ab.K1 l i=bp.L1 no bp.K1 l i
 | [],i=>rfl
 | y::l,i=>by
  have ih:=askIdx no l (i+1)
  simp only [ab.L1,bp.L1]
  rw [ih];rfl
theorem Kr {r:Register} {doc known:Int} (h:0≤bp r doc) (hk:0≤known∧known < 1099511627776):cB r doc known=(⟨r,nthI r.Docs (bp r doc),known⟩,true):=by
 have e:ab r.Docs (fun dX=>bP dX doc)=bp r doc:=askIdx doc r.Docs 0
 unfold cB
 rw [e]
 have h1:decide (bp r doc < 0)=false:=by simp;omega
 have h2:jE known=true:=by simp [jE,hk]
 rw [h1,h2]
 rfl
theorem zb:∀ (l:List Int) (g:Int),(∀ x∈l,g < x∧x < 64)→l.Pairwise (· < ·)→fo.L1 fo.K1 l g=true
 | [],_,_,_=>rfl
 | y::l,g,h,hp=>by
  have h1:=h y (List.mem_cons_self ..)
  have e:(decide (y≤g)||decide (64≤y))=false:=by simp;omega
  simp only [fo.L1,e,cond_false]
  exact zb l y (fun x hx=>⟨(List.pairwise_cons.1 hp).1 x hx,(h x (List.mem_cons_of_mem _ hx)).2⟩) (List.pairwise_cons.1 hp).2
theorem Af {l:List Int} (h:(∀ x∈l,0≤x∧x < 64)∧l.Pairwise (· < ·)):fo l=true:=zb l (-1) (fun x hx=>by have:=h.1 x hx;omega) h.2
theorem BC (x:Int):∀ (l:List Int) (i:Nat),(0≤er.L1 x er.K1 l i)↔x∈l
 | [],i=>by simp [er.L1,er.K1]
 | y::l,i=>by
  have ih:=BC x l (i+1)
  simp only [er.L1,Bool.cond_eq_ite,beq_iff_eq,List.mem_cons]
  by_cases e:x=y
  ·rw [if_pos e];simp [e]
  ·rw [if_neg e,ih];simp [e]
theorem vD (l:List Int) (x:Int):el l x=true↔x∈l:=by
 unfold el
 rw [decide_eq_true_eq]
 exact BC x l 0
theorem DS (mode:Int) (l:List Version) (old:Bool):(judgesP mode l old).Sublist l:=by
 unfold judgesP fI fq fH
 cases mode==1 <;> cases mode==2 <;> cases old <;> simp [List.take_sublist,List.drop_sublist]
theorem Ak (begun at_:Int) (k:Bool→List Version→List Int×Int×Int):∀ (l:List (Int×Version)) b g,∃ (pre:List (Int×Version)) (b':Bool),pre.Sublist l∧ay.L1 begun at_ k l b g=k b' (g++pre.map (·.2))
 | [],b,g=>⟨[],b,List.Sublist.refl _,by simp [ay.L1]⟩
 | y::l,b,g=>by
  simp only [ay.L1]
  cases decide (at_ < y.1)
  ·obtain ⟨pre,b',h1,h2⟩:=Ak begun at_ k l (b||(y.1==begun)) (g++[y.2])
   exact ⟨y::pre,b',h1.cons_cons _,by rw [cond_false,h2];simp⟩
  ·exact ⟨[],b,List.nil_sublist _,by simp⟩
theorem Jj {l:List Version} (h:l.Pairwise (fun a b=>a.No < b.No)) {a b:Version} (ha:a∈l) (hb:b∈l) (e:a.No=b.No):a=b:=by
 induction l with
 | nil=>cases ha
 | cons x l ih=>
  obtain ⟨h1,h2⟩:=List.pairwise_cons.1 h
  rcases List.mem_cons.1 ha with ea | ha' <;> rcases List.mem_cons.1 hb with eb | hb'
  ·rw [ea,eb]
  ·have:=h1 b hb';rw [ea] at e;omega
  ·have:=h1 a ha';rw [eb] at e;omega
  ·exact ih h2 ha' hb'
theorem kn (known eo:Int):∀ (l:List Version) b m,(m.map (·.1)).Nodup→((inForceM known eo l b m).map (·.1)).Nodup
 | [],b,m,h=>h
 | y::l,b,m,h=>by
  simp only [inForceM,Bool.cond_eq_ite]
  split
  ·exact kn known eo l _ _ h
  ·split
   ·split
    ·exact kn known eo l _ _ h
    ·exact kn known eo l _ _ (gS _ _ h)
   ·exact kn known eo l _ _ (gS _ _ h)
theorem vn (l:List Version) (eo known:Int):(ep l eo known).Pairwise (fun p q=>p.1 < q.1):=by
 rw [qP,List.pairwise_map]
 exact sK (jT _) ((iX _).nodup_iff.2 (kn known eo l (-1) [] List.nodup_nil))
theorem DX {l:List Version} (g:px l) (eo known:Int):(ep l eo known).Pairwise (fun p q=>p.2.No≠q.2.No):=by
 have hP:=ss (l:=l) (eo:=eo) (known:=known) (fun p=>((p.2.At≤eo∧p.1=eo)∨(eo < p.2.At∧p.1=p.2.At))∧p.2∈l) (fun y hy h=>⟨.inl ⟨h,rfl⟩,hy⟩) (fun y hy h=>⟨.inr ⟨h,rfl⟩,hy⟩)
 refine (vn l eo known).imp_of_mem fun {p q} hp hq hlt e=>?_
 have h1:=hP p hp
 have h2:=hP q hq
 have h3:=Jj g.inc h1.2 h2.2 e
 rw [h3] at h1
 omega
structure Jdg (l:List Version) (J:List Int×Int×Int):Prop where
 err:J.2.2=0
 rise:J.1.Pairwise (· < ·)
 mem:∀ x∈J.1,∃ v∈l,v.No=x
 mode:J.1≠[]→1≤J.2.1∧J.2.1≤4
theorem BR {l:List Version} (g:px l) {begun at_ known:Int} (hb:0≤begun∧begun < 1099511627776) (ht:0≤at_∧at_ < 1099511627776) (hk:0≤known∧known < 1099511627776) (hle:begun≤at_):Jdg l (ay l begun at_ known):=by
 have h0:bg l=0:=(je l).2 g
 have h1:∀ x:Int,0≤x∧x < 1099511627776→eC x=true:=fun x hx=>by simp [eC,hx]
 have h2:decide (at_ < begun)=false:=by simp;omega
 unfold ay
 rw [h0,h1 _ hb,h1 _ ht,h1 _ hk,h2]
 simp only [bne_self_eq_false,cond_false,Bool.not_true,Bool.or_false]
 obtain ⟨pre,b',hs,e⟩:=Ak begun at_ ay.K1 (ep l begun known) false []
 rw [e,List.nil_append]
 unfold ay.K1
 cases hc:(((pre.map (·.2)).length:Int)==0) with
 | true=>exact ⟨rfl,List.Pairwise.nil,fun x hx=>(List.not_mem_nil hx).elim,fun h=>absurd rfl h⟩
 | false=>
  simp only [cond_false,s9,ay.K2,List.nil_append]
  have hpre:pre.length≠0:=by simpa using hc
  have hsub:=DS ((nthI (pre.map (·.2)) (((pre.map (·.2)).length:Int) - 1)).Policy.Mode) (pre.map (·.2)) b'
  have hnd:(pre.map (·.2)).Pairwise (fun a b=>a.No≠b.No):=by
   rw [List.pairwise_map]
   exact (DX g begun known).sublist hs
  refine ⟨rfl,sK (jT _) ((iX _).nodup_iff.2 ?_),fun x hx=>?_,fun _=>?_⟩
  ·show List.Pairwise _ _
   rw [List.pairwise_map]
   exact hnd.sublist hsub
  ·have hx2:=(iX _).mem_iff.1 hx
   obtain ⟨v,hv,rfl⟩:=List.mem_map.1 hx2
   obtain ⟨p,hp,rfl⟩:=List.mem_map.1 (hsub.subset hv)
   exact ⟨p.2,sq p (hs.subset hp),rfl⟩
  ·have hm:nthI (pre.map (·.2)) (((pre.map (·.2)).length:Int) - 1)∈pre.map (·.2):=fm (by rw [List.length_map];omega)
   obtain ⟨p,hp,hpe⟩:=List.mem_map.1 hm
   have:=g.mode (sq p (hs.subset hp))
   rw [hpe] at this
   exact this
theorem B3 (no:Int) (k:Version):∀ (l:List Version),l.Pairwise (fun a b=>a.No < b.No)→∀ v∈l,v.No=no→bM.L1 no k l=v
 | x::l,h,v,hv,e=>by
  obtain ⟨h1,h2⟩:=List.pairwise_cons.1 h
  simp only [bM.L1,Bool.cond_eq_ite,beq_iff_eq]
  rcases List.mem_cons.1 hv with rfl | hv
  ·rw [if_pos e]
  ·rw [if_neg (by have:=h1 v hv;omega)]
   exact B3 no k l h2 v hv e
theorem EY {r:Register} (g:px r.Versions) {J:List Int×Int×Int} (j:Jdg r.Versions J):(r.Versions.filter fun v=>el J.1 v.No)=J.1.map (bM r):=by
 have hmem:∀ x,x∈((r.Versions.filter fun v=>el J.1 v.No).map (·.No))↔x∈J.1:=by
  intro x
  rw [List.mem_map]
  constructor
  ·rintro ⟨v,hv,rfl⟩
   exact (vD _ _).1 (List.mem_filter.1 hv).2
  ·intro hx
   obtain ⟨v,hv,rfl⟩:=j.mem x hx
   exact ⟨v,List.mem_filter.2 ⟨hv,(vD _ _).2 hx⟩,rfl⟩
 have hri:((r.Versions.filter fun v=>el J.1 v.No).map (·.No)).Pairwise (· < ·):=by
  rw [List.pairwise_map]
  exact g.inc.sublist (List.filter_sublist ..)
 have he:(r.Versions.filter fun v=>el J.1 v.No).map (·.No)=J.1:=by
  refine oW (hri.imp fun h=>Int.le_of_lt h) (j.rise.imp fun h=>Int.le_of_lt h) ?_
  exact (List.perm_ext_iff_of_nodup (hri.imp fun h=>by omega) (j.rise.imp fun h=>by omega)).2 hmem
 conv=>rhs;rw [← he]
 rw [List.map_map]
 conv=>lhs;rw [← List.map_id (r.Versions.filter fun v=>el J.1 v.No)]
 apply List.map_congr_left
 intro v hv
 exact (B3 v.No _ _ g.inc v (List.mem_filter.1 hv).1 rfl).symm
theorem Fa (mode:Int):(eT mode []).1=false:=by
 unfold eT aM
 have h1:∀ f,bX [] f=-1:=fun _=>rfl
 have h2:decide (0≤(-1:Int))=false:=rfl
 rw [h1,h1,h2]
 cases (ft mode [] != 0) <;> cases (mode==4) <;> cases (mode==3) <;> cases (mode != 4) <;> rfl
theorem Fb {mode:Int} (hm:1≤mode∧mode≤4) {l:List Bool} (hl:l.length≤256):(eT mode l).2=0:=by
 have hc:ft mode l=0:=by
  have h1:mhas gO mode=true:=by
   have:mode=1∨mode=2∨mode=3∨mode=4:=by omega
   rcases this with rfl | rfl | rfl | rfl <;> rfl
  unfold ft
  rw [h1,show decide (256 < (l.length:Int))=false from decide_eq_false (by omega)]
  rfl
 have k1:∀ (k:List Int→List Int×Bool×Int),(∀ g,(k g).2.2=0)→∀ (s:List Bool) i g,(aM.L1 k s i g).2.2=0:=by
  intro k hk s
  induction s with
  | nil=>intro i g;exact hk g
  | cons y s ih=>intro i g;exact ih _ _
 have k2:∀ (k:List Int→List Int×Bool×Int),(∀ g,(k g).2.2=0)→∀ (s:List Bool) i g,(aM.L2 k s i g).2.2=0:=by
  intro k hk s
  induction s with
  | nil=>intro i g;exact hk g
  | cons y s ih=>intro i g;exact ih _ _
 have k3:∀ (k:List Int→List Int×Bool×Int),(∀ g,(k g).2.2=0)→∀ (s:List Bool) i g,(aM.L3 k s i g).2.2=0:=by
  intro k hk s
  induction s with
  | nil=>intro i g;exact hk g
  | cons y s ih=>intro i g;exact ih _ _
 show (aM mode l).2.2=0
 unfold aM
 rw [hc]
 simp only [bne_self_eq_false,cond_false,Bool.cond_eq_ite]
 repeat' split
 all_goals first
  | rfl
  | exact k1 _ (fun _=>rfl) _ _ _
  | exact k2 _ (fun _=>rfl) _ _ _
  | exact k3 _ (fun _=>rfl) _ _ _
theorem ri (k:Int→Int) (hk:∀ g,k g=0):∀ (l:List Int) (g:Int),(∀ x∈l,g < x∧x≤1048576)→l.Pairwise (· < ·)→bq.L1 k l g=0
 | [],g,_,_=>hk g
 | y::l,g,h,hp=>by
  have h1:=h y (List.mem_cons_self ..)
  have e:(decide (y≤g)||decide (1048576 < y))=false:=by simp;omega
  simp only [bq.L1,e,cond_false]
  exact ri k hk l y (fun x hx=>⟨(List.pairwise_cons.1 hp).1 x hx,(h x (List.mem_cons_of_mem _ hx)).2⟩) (List.pairwise_cons.1 hp).2
theorem CJ {l:List Interest} (hc:bK l=0) {p t known:Int} {ps:List Int} (hp:0≤p∧p < 64) (hps:((∀ x∈ps,0≤x∧x < 1048577)∧ps.Pairwise (· < ·))∧ps.length≤16) (ht:0≤t∧t < 1099511627776) (hk:0≤known∧known < 1099511627776):(cX l p ps t known).2.2=0:=by
 have e:bq l p ps t known=0:=by
  unfold bq
  rw [hc]
  refine ri _ (fun g=>?_) ps (-1) (fun x hx=>by have:=hps.1.1 x hx;omega) hps.1.2
  unfold bq.K1
  have h1:aO p 64=true:=by simp [aO,hp]
  have h2:aO t 1099511627776=true:=by simp [aO,ht]
  have h3:aO known 1099511627776=true:=by simp [aO,hk]
  have h4:decide (16 < (ps.length:Int))=false:=by simp;omega
  rw [h1,h2,h3,h4];rfl
 unfold cX
 rw [e];rfl
def cval (q:aC) (who:List Int) (t:Int) (p:Policy):Bool:=
 bif (decide (q.doc.Kind < (p.Rules.length:Int))&&decide ((q.doc.At+(nthI p.Rules q.doc.Kind).Think)≤t)) then ((bW p q.doc.Kind q.doc.Value (av q p t) (bv who (fun dX=>aS dX q t))).1&&((bW p q.doc.Kind q.doc.Value (av q p t) (bv who (fun dX=>aS dX q t))).2==0))
 else (decide (q.doc.Kind < (p.Rules.length:Int))&&decide ((q.doc.At+(nthI p.Rules q.doc.Kind).Think)≤t))
theorem JP (q:aC) (who:List Int) (t:Int) (k:List Bool→Bool):∀ (l:List Policy) (g:List Bool),aP.L1 q who t k l g=k (g++l.map (cval q who t))
 | [],g=>by simp [aP.L1]
 | y::l,g=>by
  have ih:=JP q who t k l
  simp only [aP.L1,ih,List.map_cons]
  unfold cval
  cases (decide (q.doc.Kind < (y.Rules.length:Int))&&decide ((q.doc.At+(nthI y.Rules q.doc.Kind).Think)≤t)) <;> simp
theorem Iq_ (L:List Appoint):∀ (l:List Appoint) (i:Nat),eH.L1 L eH.K1 l i=0→∀ d∈l,0≤d.At
 | [],_,_=>fun _ h=>(List.not_mem_nil h).elim
 | y::l,i,h=>by
  simp only [eH.L1,Bool.cond_eq_ite] at h
  split at h
  ·omega
  ·next hc=>
   simp only [Bool.or_eq_true,not_or,Bool.not_eq_true',Bool.not_eq_false] at hc
   intro d hd
   rcases List.mem_cons.1 hd with rfl | hd
   ·have h1:=hc.1
    simp only [gW,Bool.cond_eq_ite] at h1
    split at h1
    ·cases h1
    ·next h2=>simp only [Bool.or_eq_true,not_or,Bool.not_eq_true',Bool.not_eq_false,ib,Bool.and_eq_true,decide_eq_true_eq] at h2;omega
   ·exact Iq_ L l (i+1) h d hd
theorem IM (L:List Interest):∀ (l:List Interest) (i:Nat),et.L1 L et.K1 l i=0→∀ d∈l,0≤d.At
 | [],_,_=>fun _ h=>(List.not_mem_nil h).elim
 | y::l,i,h=>by
  simp only [et.L1,Bool.cond_eq_ite] at h
  split at h
  ·omega
  ·next hc=>
   simp only [Bool.or_eq_true,not_or,Bool.not_eq_true',Bool.not_eq_false] at hc
   intro d hd
   rcases List.mem_cons.1 hd with rfl | hd
   ·have h1:=hc.1
    simp only [gV,Bool.cond_eq_ite] at h1
    split at h1
    ·cases h1
    ·next h2=>simp only [Bool.or_eq_true,not_or,Bool.not_eq_true',Bool.not_eq_false,ia,Bool.and_eq_true,decide_eq_true_eq] at h2;omega
   ·exact IM L l (i+1) h d hd
theorem IN {l:List Appoint} (h:eH l=0):∀ d∈l,0≤d.At:=by
 unfold eH at h
 rw [Bool.cond_eq_ite] at h
 split at h
 ·omega
 ·exact Iq_ l l 0 h
theorem IL {l:List Interest} (h:et l=0):∀ d∈l,0≤d.At:=by
 unfold et at h
 rw [Bool.cond_eq_ite] at h
 split at h
 ·omega
 ·exact IM l l 0 h
theorem wx {β : Type} (F:(Expr→β)→Expr→β) (go:Nat→Expr→β) (h:∀ m,go (m+1)=F (go m)) (hF:∀ f g x,(∀ y∈x.L,f y=g y)→F f x=F g x) (x:Expr):go x.dep x=F (fun y=>go y.dep y) x:=by
 have key:∀ x:Expr,∀ m,x.dep≤m→go m x=go x.dep x:=by
  refine fun x=>Expr.ind (P:=fun x=>∀ m,x.dep≤m→go m x=go x.dep x) ?_ x
  intro x ih m hm
  have hp:=Expr.jK x
  obtain ⟨m',rfl⟩:∃ m',m=m'+1:=⟨m - 1,by omega⟩
  obtain ⟨n,hn⟩:∃ n,x.dep=n+1:=⟨x.dep - 1,by omega⟩
  rw [hn,h,h]
  refine hF _ _ _ fun y hy=>?_
  have:=Expr.gk hy
  rw [ih y hy m' (by omega),ih y hy n (by omega)]
 have hp:=Expr.jK x
 obtain ⟨n,hn⟩:∃ n,x.dep=n+1:=⟨x.dep - 1,by omega⟩
 rw [hn,h]
 refine hF _ _ _ fun y hy=>?_
 have:=Expr.gk hy
 exact key y n (by omega)
theorem IU (x:Expr):aV x=aV.F aV x:=by
 refine wx aV.F aV.go (fun m=>rfl) (fun f g x h=>?_) x
 unfold aV.F
 have:∀ (k:Int→Int) (l:List Expr) a,(∀ y∈l,f y=g y)→aV.L1 f k l a=aV.L1 g k l a:=by
  intro k l
  induction l with
  | nil=>intros;rfl
  | cons y l ih=>intro a hl;simp only [aV.L1,hl y (List.mem_cons_self ..)];exact ih _ fun z hz=>hl z (List.mem_cons_of_mem _ hz)
 exact this _ _ _ h
theorem depthL (l:List Expr):∀ (a:Int),a≤aV.L1 aV (fun g=>g) l a∧(∀ y∈l,aV y≤aV.L1 aV (fun g=>g) l a)∧∀ M:Int,a≤M→(∀ y∈l,aV y≤M)→aV.L1 aV (fun g=>g) l a≤M:=by
 induction l with
 | nil=>intro a;exact ⟨Int.le_refl _,fun _ h=>(List.not_mem_nil h).elim,fun M h _=>h⟩
 | cons y l ih=>
  intro a
  obtain ⟨i1,i2,i3⟩:=ih (max a (aV y))
  simp only [aV.L1]
  refine ⟨by omega,fun w hw=>?_,fun M h1 h2=>i3 M (by have:=h2 y (List.mem_cons_self ..);omega) fun w hw=>h2 w (List.mem_cons_of_mem _ hw)⟩
  rcases List.mem_cons.1 hw with rfl | hw
  ·omega
  ·exact i2 w hw
theorem depthK (l:List Expr):∀ (a:Int),aV.L1 aV aV.K1 l a=IntKind.i64.wrap (aV.L1 aV (fun g=>g) l a+1):=by
 induction l with
 | nil=>intro a;rfl
 | cons y l ih=>intro a;exact ih _
theorem Em (x:Expr):x.dep≤1500000→(1≤aV x∧aV x≤x.dep)∧aV x=aV.L1 aV (fun g=>g) x.L 0+1:=by
 refine Expr.ind (P:=fun x=>x.dep≤1500000→(1≤aV x∧aV x≤x.dep)∧aV x=aV.L1 aV (fun g=>g) x.L 0+1) ?_ x
 intro x ih hx
 obtain ⟨i1,i2,i3⟩:=depthL x.L 0
 have hp:=Expr.jK x
 have h3:=i3 ((x.dep:Int) - 1) (by omega) fun y hy=>by
  have h4:=Expr.gk hy
  have:=(ih y hy (by omega)).1.2
  omega
 have e:aV x=aV.L1 aV (fun g=>g) x.L 0+1:=by
  rw [IU]
  unfold aV.F
  rw [depthK,wrap64 (by omega)]
 exact ⟨by omega,e⟩
theorem El (x:Expr):x.dep≤1500000→∀ (d D:Int),aV x≤D→∀ z∈aY x d,z.depth≤d+D - 1:=by
 refine Expr.ind (P:=fun x=>x.dep≤1500000→∀ (d D:Int),aV x≤D→∀ z∈aY x d,z.depth≤d+D - 1) ?_ x
 intro x ih hx d D hD z hz
 obtain ⟨h1,h2⟩:=Em x hx
 rw [lr] at hz
 rcases List.mem_cons.1 hz with rfl | hz
 ·show d≤d+D - 1;omega
 ·obtain ⟨y,hy,hz⟩:=List.mem_flatMap.1 hz
  have h4:=Expr.gk hy
  have h5:=(depthL x.L 0).2.1 y hy
  have:=ih y hy (by omega) (d+1) (D - 1) (by omega) z hz
  omega
theorem IQ (x:Expr):cH x=cH.F cH x:=by
 refine wx cH.F cH.go (fun m=>rfl) (fun f g x h=>?_) x
 funext limit
 unfold cH.F
 have:∀ (k:Int→Int) (l:List Expr) a,(∀ y∈l,f y=g y)→cH.L1 f limit k l a=cH.L1 g limit k l a:=by
  intro k l
  induction l with
  | nil=>intros;rfl
  | cons y l ih=>
   intro a hl
   simp only [cH.L1,hl y (List.mem_cons_self ..)]
   rw [ih _ fun z hz=>hl z (List.mem_cons_of_mem _ hz)]
 exact this _ _ _ h
def cnt (x:Expr):Nat:=(aY x 1).length
theorem KM (x:Expr):∀ d,(aY x d).length=cnt x:=by
 refine Expr.ind (P:=fun x=>∀ d,(aY x d).length=cnt x) ?_ x
 intro x ih d
 unfold cnt
 rw [lr,lr x 1,List.length_cons,List.length_cons,List.length_flatMap,List.length_flatMap]
 congr 2
 apply List.map_congr_left
 intro y hy
 rw [ih y hy,ih y hy]
theorem II (x:Expr):cnt x=1+(x.L.map cnt).sum:=by
 conv=>lhs;unfold cnt
 rw [lr,List.length_cons,List.length_flatMap,Nat.add_comm]
 congr 2
 apply List.map_congr_left
 intro y hy
 exact KM y _
theorem BQ (x:Expr):∀ limit:Int,0≤limit→limit≤256→cH x limit=min (cnt x:Int) (limit+1):=by
 refine Expr.ind (P:=fun x=>∀ limit:Int,0≤limit→limit≤256→cH x limit=min (cnt x:Int) (limit+1)) ?_ x
 intro x ih limit h0 h1
 rw [IQ,II]
 unfold cH.F
 have key:∀ (l:List Expr) (a:Int),(∀ y∈l,y∈x.L)→1≤a→a≤limit+1→cH.L1 cH limit cH.K1 l a=min (a+((l.map cnt).sum:Nat)) (limit+1):=by
  intro l
  induction l with
  | nil=>intro a _ _ ha;simp only [cH.L1,cH.K1,List.map_nil,List.sum_nil];omega
  | cons y l ih2=>
   intro a hl h2 h3
   simp only [cH.L1,Bool.cond_eq_ite,decide_eq_true_eq,List.map_cons,List.sum_cons]
   by_cases ha:a≤limit
   ·rw [if_pos ha,wrap64 (z:=limit - a) (by omega),ih y (hl y (List.mem_cons_self ..)) (limit - a) (by omega) (by omega)]
    have hc:1≤cnt y:=by rw [II];omega
    rw [wrap64 (by omega),ih2 _ (fun z hz=>hl z (List.mem_cons_of_mem _ hz)) (by omega) (by omega)]
    omega
   ·rw [if_neg ha]
    simp only [cH.K1]
    omega
 rw [key x.L 1 (fun y hy=>hy) (by omega) (by omega)]
 omega
theorem DN {x:Expr} (hx:x.dep≤1500000) (h:il x=false):(aY x 1).length≤256∧∀ z∈aY x 1,z.depth≤16:=by
 simp only [il,Bool.or_eq_false_iff,decide_eq_false_iff_not] at h
 have h1:=BQ x 256 (by decide) (by decide)
 have h2:=El x hx 1 16 (by omega)
 refine ⟨?_,fun z hz=>by have:=h2 z hz;omega⟩
 show cnt x≤256
 omega
theorem wR (s:ByteArray):∀ (m i:Nat) (r:List UInt8),s.size - i=m→(ByteArray.toList.loop s i r).length=r.length+m
 | 0,i,r,h=>by rw [ByteArray.toList.loop];rw [if_neg (by omega)];simp
 | m+1,i,r,h=>by
  rw [ByteArray.toList.loop,if_pos (by omega),wR s m (i+1) _ (by omega),List.length_cons]
  omega
theorem ql (s:ByteArray):s.toList.length=s.size:=by
 have:=wR s s.size 0 [] (by omega)
 simpa [ByteArray.toList] using this
theorem Js {α : Type} (c:Bool) (a b d:α):(bif c then (bif c then a else b) else d)=bif c then a else d:=by cases c <;> rfl
theorem Ko (c x:Bool):(bif c then false else x)=(!c&&x):=by cases c <;> rfl
theorem Kn (c x:Bool):(bif c then true else x)=(c||x):=by cases c <;> simp
theorem BK (s:ByteArray):db s=(de s&&!(ll s)):=by
 unfold db ll
 simp only [Js]
 simp only [Ko,Kn,Bool.not_or,Bool.or_false]
 ac_rfl
theorem vF (c:Int):(iL c != 2)=!(i8 c):=by
 unfold iL i8
 cases ((decide (97≤c)&&decide (c≤122))||(decide (65≤c)&&decide (c≤90))) <;> cases (decide (48≤c)&&decide (c≤57)) <;> cases (c==95) <;> cases ((((c==32)||(c==9))||(c==10))||(c==13)) <;> cases (decide (0≤(strings_IndexByte (⟨#[123,125,40,41,59,44,61,58,46,60,62,33,43,45,42,47]⟩:ByteArray) c))) <;> rfl
theorem E7 (c:Int):(((iL c != 2)&&(iL c != 3))&&(iL c != 5))=!(m5 c):=by
 unfold iL m5 i8 kD
 cases ((decide (97≤c)&&decide (c≤122))||(decide (65≤c)&&decide (c≤90))) <;> cases (decide (48≤c)&&decide (c≤57)) <;> cases (c==95) <;> cases ((((c==32)||(c==9))||(c==10))||(c==13)) <;> cases (decide (0≤(strings_IndexByte (⟨#[123,125,40,41,59,44,61,58,46,60,62,33,43,45,42,47]⟩:ByteArray) c))) <;> rfl
theorem Co (s:ByteArray):∀ (l:List Nat) (i:Nat),de.L1 s de.K1 l i=fE.L1 s fE.K1 l i
 | [],i=>rfl
 | y::l,i=>by simp only [de.L1,fE.L1,E7,Co s l]
theorem FM {s:ByteArray} (h:fE s=true):de s=true:=by
 unfold fE at h
 unfold de
 rw [vF,Co]
 rw [Bool.cond_eq_ite] at h ⊢
 split at h
 ·cases h
 ·next hc=>
  simp only [Bool.or_eq_true,not_or,decide_eq_true_eq] at hc
  obtain ⟨⟨h1,h2⟩,h3⟩:=hc
  have e:(s.toList==(⟨#[]⟩:ByteArray).toList)=false:=by
   rw [Bool.eq_false_iff]
   intro he
   have he:=eq_of_beq he
   have h9:=ql s
   rw [he,ql] at h9
   have:(⟨#[]⟩:ByteArray).size=0:=rfl
   omega
  rw [e,if_neg]
  ·exact h
  ·simp only [Bool.false_or,Bool.or_eq_true,not_or,decide_eq_true_eq]
   exact ⟨h2,h3⟩
theorem F1 {s:ByteArray} (h:kC s=true):db s=true:=by
 simp only [kC,Bool.and_eq_true] at h
 rw [BK,FM h.1,h.2];rfl
theorem Bg (s:ByteArray):∀ (l:List ByteArray) (i:Nat),dC.L1 s dC.K1 l i=aJ.L1 s aJ.K1 l i
 | [],i=>rfl
 | y::l,i=>by
  have:(y.toList==s.toList)=(s.toList==y.toList):=by rw [Bool.eq_iff_iff,beq_iff_eq,beq_iff_eq];exact eq_comm
  simp only [dC.L1,aJ.L1,this,Bg s l]
theorem rindex (l:List ByteArray) (s:ByteArray):dC l s=aJ l s:=Bg s l 0
theorem xm {l:List ByteArray} (h:dL l=true):bn l db=true:=by
 have key:∀ (L l:List ByteArray) (i:Nat),dL.L1 L dL.K1 l i=true→bn.L1 L db bn.K1 l i=true:=by
  intro L l
  induction l with
  | nil=>intros;rfl
  | cons y l ih=>
   intro i h
   simp only [dL.L1,Bool.cond_eq_ite] at h
   split at h
   ·cases h
   ·next hc=>
    simp only [Bool.or_eq_true,not_or,Bool.not_eq_true',Bool.not_eq_false,Bool.not_eq_true] at hc
    simp only [bn.L1,F1 hc.1,← rindex,hc.2,Bool.not_true,Bool.or_self,cond_false]
    exact ih _ h
 exact key l l 0 h
theorem pp (off:List ByteArray) {f g:List ByteArray→Expr→Bool} (k:Bool):∀ (l:List Expr),(∀ y∈l,f off y=g off y)→bA.L1 f off k l=bA.L1 g off k l
 | [],_=>rfl
 | y::l,h=>by simp only [bA.L1,h y (List.mem_cons_self ..),pp off k l fun z hz=>h z (List.mem_cons_of_mem _ hz)]
theorem DE (off:List ByteArray) (x:Expr):bA off x=bA.F bA off x:=by
 have:=wx (fun f x=>bA.F (fun _ y=>f y) off x) (fun m x=>bA.go m off x) (fun m=>?_) (fun f g x h=>?_) x
 ·refine Eq.trans this ?_
  show bA.F _ off x=_
  unfold bA.F
  rw [pp off (f:=fun _ y=>bA.go y.dep off y) (g:=bA) _ x.L fun y hy=>rfl]
 ·funext x
  show bA.F (bA.go m) off x=bA.F _ off x
  unfold bA.F
  rw [pp off (f:=bA.go m) (g:=fun _ y=>bA.go m off y) _ x.L fun y hy=>rfl]
 ·show bA.F _ off x=bA.F _ off x
  unfold bA.F
  rw [pp off (f:=fun _ y=>f y) (g:=fun _ y=>g y) _ x.L h]
theorem Bv (off:List ByteArray):∀ (l:List Expr),bA.L1 bA off bA.K1 l=true→∀ y∈l,bA off y=true
 | [],_=>fun _ h=>(List.not_mem_nil h).elim
 | y::l,h=>by
  simp only [bA.L1,Bool.cond_eq_ite] at h
  split at h
  ·cases h
  ·next hc=>
   intro z hz
   rcases List.mem_cons.1 hz with rfl | hz
   ·simpa using hc
   ·exact Bv off l h z hz
theorem DD (off:List ByteArray) (x:Expr):bA off x=true→∀ d,∀ z∈aY x d,((!(cA z.x))||cq off z.x.Name)=true:=by
 refine Expr.ind (P:=fun x=>bA off x=true→∀ d,∀ z∈aY x d,((!(cA z.x))||cq off z.x.Name)=true) ?_ x
 intro x ih h d z hz
 rw [DE] at h
 unfold bA.F at h
 rw [Bool.cond_eq_ite] at h
 split at h
 ·cases h
 ·next hc=>
  rw [lr] at hz
  rcases List.mem_cons.1 hz with rfl | hz
  ·show ((!(cA x))||cq off x.Name)=true
   unfold cq cA
   rw [rindex] at hc
   by_cases h2:aJ off x.Name < 0
   ·have:decide (aJ off x.Name < 0)=true:=by simpa using h2
    rw [this,Bool.and_true] at hc
    simp only [Bool.not_eq_true] at hc
    rw [hc];rfl
   ·have:decide (0≤aJ off x.Name)=true:=by simp;omega
    rw [this,Bool.or_true]
  ·obtain ⟨y,hy,hz⟩:=List.mem_flatMap.1 hz
   exact ih y hy (Bv off x.L h y hy) (d+1) z hz
theorem nW (u:Bool) {f g:Expr→Bool→Bool} (k:Bool):∀ (l:List Expr),(∀ y∈l,f y u=g y u)→aA.L1 f u k l=aA.L1 g u k l
 | [],_=>rfl
 | y::l,h=>by simp only [aA.L1,h y (List.mem_cons_self ..),nW u k l fun z hz=>h z (List.mem_cons_of_mem _ hz)]
theorem BM (x:Expr) (u:Bool):aA x u=aA.F aA x u:=by
 have:=wx (fun f x=>aA.F (fun y _=>f y) x u) (fun m x=>aA.go m x u) (fun m=>?_) (fun f g x h=>?_) x
 ·refine Eq.trans this ?_
  show aA.F _ x u=_
  unfold aA.F
  rw [nW u (f:=fun y _=>aA.go y.dep y u) (g:=aA) _ x.L fun y hy=>rfl]
 ·funext x
  show aA.F (aA.go m) x u=aA.F _ x u
  unfold aA.F
  rw [nW u (f:=aA.go m) (g:=fun y _=>aA.go m y u) _ x.L fun y hy=>rfl]
 ·show aA.F _ x u=aA.F _ x u
  unfold aA.F
  rw [nW u (f:=fun y _=>f y) (g:=fun y _=>g y) _ x.L h]
theorem zP (u k:Bool):∀ (l:List Expr),aA.L1 aA u k l=true→(∀ y∈l,aA y u=true)∧k=true
 | [],h=>⟨fun _ h=>(List.not_mem_nil h).elim,h⟩
 | y::l,h=>by
  simp only [aA.L1,Bool.cond_eq_ite] at h
  split at h
  ·cases h
  ·next hc=>
   obtain ⟨h1,h2⟩:=zP u k l h
   refine ⟨fun z hz=>?_,h2⟩
   rcases List.mem_cons.1 hz with rfl | hz
   ·simpa using hc
   ·exact h1 z hz
theorem GF {x:Expr} {u:Bool} (h:aA.K1 x u=true):(aH x.Kind 1 4&&kindsP x.Kind x)=true∧(u=false→x.Kind≠4):=by
 unfold aA.K1 at h
 simp only [Bool.cond_eq_ite,beq_iff_eq] at h
 split at h
 ·next e=>
  rw [e]
  refine ⟨?_,fun _=>by decide⟩
  show (_&&ir x)=true
  unfold ir
  rw [h];rfl
 ·split at h
  ·next e=>
   rw [e]
   refine ⟨?_,fun _=>by decide⟩
   show (_&&iq x)=true
   unfold iq aH
   rw [h];rfl
  ·split at h
   ·next e=>
    rw [e]
    refine ⟨?_,fun _=>by decide⟩
    show (_&&ip x)=true
    unfold ip aH
    simp only [Bool.and_eq_true] at h ⊢
    exact ⟨⟨rfl,rfl⟩,⟨h.1.1.1.1,h.1.1.1.2,h.1.1.2⟩,h.1.2,h.2⟩
   ·split at h
    ·next e=>
     rw [e]
     simp only [Bool.and_eq_true] at h
     refine ⟨?_,fun hu=>by rw [hu] at h;simp at h⟩
     show (_&&gQ x)=true
     unfold gQ aH
     simp only [Bool.and_eq_true]
     exact ⟨⟨rfl,rfl⟩,⟨h.1.1.1.2,h.1.1.2⟩,h.1.2,h.2⟩
    ·cases h
theorem BL (u:Bool) (x:Expr):aA x u=true→∀ d,∀ z∈aY x d,(aH z.x.Kind 1 4&&kindsP z.x.Kind z.x)=true∧(u=false→z.x.Kind≠4):=by
 refine Expr.ind (P:=fun x=>aA x u=true→∀ d,∀ z∈aY x d,(aH z.x.Kind 1 4&&kindsP z.x.Kind z.x)=true∧(u=false→z.x.Kind≠4)) ?_ x
 intro x ih h d z hz
 rw [BM] at h
 obtain ⟨h1,h2⟩:=zP u _ x.L h
 rw [lr] at hz
 rcases List.mem_cons.1 hz with rfl | hz
 ·exact GF h2
 ·obtain ⟨y,hy,hz⟩:=List.mem_flatMap.1 hz
  exact ih y hy (h1 y hy) (d+1) z hz
theorem rl1 (rec:List ByteArray→Expr→Expr) (off:List ByteArray) (k:List Expr→Expr):∀ (l g:List Expr),aa.L1 rec off k l g=k (g++l.map (rec off))
 | [],g=>by simp [aa.L1]
 | y::l,g=>by simp [aa.L1,rl1 rec off k l]
theorem rl2 (rec:List ByteArray→Expr→Expr) (off:List ByteArray) (k:List Expr→Expr):∀ (l g:List Expr),aa.L2 rec off k l g=k (g++l.map (rec off))
 | [],g=>by simp [aa.L2]
 | y::l,g=>by simp [aa.L2,rl2 rec off k l]
def rno (off:List ByteArray) (x:Expr):Int:=bif cA x then aJ off x.Name else 0
theorem EQ (rec:List ByteArray→Expr→Expr) (off:List ByteArray) (x:Expr):aa.F rec off x=Expr.mk x.Kind x.N (rno off x) x.Name (x.L.map (rec off)):=by
 unfold aa.F rno cA
 cases ((x.Kind==1)||(x.Kind==2))
 ·rw [cond_false,rl2];rfl
 ·rw [cond_true,rl1];unfold aa.K1;rw [rindex];rfl
theorem wZ (off:List ByteArray) (x:Expr):aa off x=Expr.mk x.Kind x.N (rno off x) x.Name (x.L.map (aa off)):=by
 have:=wx (fun f x=>Expr.mk x.Kind x.N (rno off x) x.Name (x.L.map f)) (fun m x=>aa.go m off x) (fun m=>?_) (fun f g x h=>?_) x
 ·exact this
 ·funext x
  show aa.F (aa.go m) off x=_
  rw [EQ]
 ·show Expr.mk _ _ _ _ _=Expr.mk _ _ _ _ _
  rw [List.map_congr_left h]
theorem yr (b:Expr) {f g:Expr→Expr→Bool} (k:Bool):∀ (l:List Expr) (i:Nat),(∀ y∈l,f y=g y)→aU.L1 f b k l i=aU.L1 g b k l i
 | [],_,_=>rfl
 | y::l,i,h=>by simp only [aU.L1,h y (List.mem_cons_self ..),yr b k l (i+1) fun z hz=>h z (List.mem_cons_of_mem _ hz)]
theorem FH (x:Expr):aU x=aU.F aU x:=by
 refine wx aU.F aU.go (fun m=>rfl) (fun f g x h=>?_) x
 funext b
 unfold aU.F
 rw [yr b _ x.L 0 h]
theorem FI (b:Expr):∀ (l:List Expr) (i:Nat),aU.L1 aU b aU.K1 l i=true→∀ (j:Nat) (y:Expr),l[j]? = some y→aU y (nthI b.L ((i+j:Nat):Int))=true
 | [],_,_,j,y,hj=>by simp at hj
 | z::l,i,h,j,y,hj=>by
  simp only [aU.L1,Bool.cond_eq_ite] at h
  split at h
  ·cases h
  ·next hc=>
   cases j with
   | zero=>simp at hj;subst hj;simpa using hc
   | succ j=>have:=FI b l (i+1) h j y (by simpa using hj);rw [show i+(j+1)=i+1+j from by omega];exact this
theorem I7 (off:List ByteArray) (x:Expr):aU (aa off x) x=true→∀ d,∀ z∈aY x d,z.x.No=rno off z.x:=by
 refine Expr.ind (P:=fun x=>aU (aa off x) x=true→∀ d,∀ z∈aY x d,z.x.No=rno off z.x) ?_ x
 intro x ih h d z hz
 rw [FH,wZ] at h
 unfold aU.F at h
 rw [Bool.cond_eq_ite] at h
 split at h
 ·cases h
 ·next hc=>
  simp only [Bool.or_eq_true,not_or,bne_iff_ne,ne_eq,Classical.not_not] at hc
  have hno:rno off x=x.No:=hc.1.1.2
  rw [lr] at hz
  rcases List.mem_cons.1 hz with rfl | hz
  ·exact hno.symm
  ·obtain ⟨y,hy,hz⟩:=List.mem_flatMap.1 hz
   obtain ⟨j,hj⟩:=List.getElem?_of_mem hy
   have h2:=FI x _ 0 h j (aa off y) (by show (List.map (aa off) x.L)[j]? = _;rw [List.getElem?_map,hj];rfl)
   have hlt:=(List.getElem?_eq_some_iff.1 hj).1
   have hg:=bJ (xs:=x.L) (z:=((0+j:Nat):Int)) (by omega)
   rw [show (((0+j:Nat):Int)).toNat=j from by omega,hj] at hg
   rw [← Option.some.inj hg] at h2
   exact ih y hy h2 (d+1) z hz
theorem wY {off:List ByteArray} {x:Expr} (h:aU (aa off x) x=true):bD off x=true:=by
 unfold bD bD.K1
 rw [nk]
 exact I7 off x h 1
def rrules (off:List ByteArray):List Rule→Nat→List Rule
 | [],_=>[]
 | y::l,i=>Rule.mk y.Kind (i:Int) y.Think (aa off y.Expr)::rrules off l (i+1)
theorem yC (off:List ByteArray):∀ (l:List Rule) (i j:Nat) (y:Rule),l[j]? = some y→(rrules off l i)[j]? = some (Rule.mk y.Kind ((i+j:Nat):Int) y.Think (aa off y.Expr))
 | [],_,j,y,h=>by simp at h
 | z::l,i,0,y,h=>by simp at h;subst h;rfl
 | z::l,i,j+1,y,h=>by
  have:=yC off l (i+1) j y (by simpa using h)
  rw [show i+(j+1)=i+1+j from by omega]
  exact this
theorem uN (p:Policy):∀ (l:List Rule) (i:Nat) (g:List Rule),dh.L1 p (dh.K1 p) l i g=(Policy.mk p.Name p.Kinds p.Offices (g++rrules p.Offices l i) (aa p.Offices p.Change) p.Mode,0)
 | [],i,g=>by
  simp only [dh.L1,dh.K1,rrules,List.append_nil,Expr.eta]
 | y::l,i,g=>by
  simp only [dh.L1,uN p l,rrules,Expr.eta,List.append_assoc,List.singleton_append]
theorem Gd (b:Policy):∀ (l:List Rule) (i:Nat),fY.L1 b fY.K1 l i=true→∀ (j:Nat) (y:Rule),l[j]? = some y→y.KindNo=(nthI b.Rules ((i+j:Nat):Int)).KindNo∧aU y.Expr (nthI b.Rules ((i+j:Nat):Int)).Expr=true
 | [],_,_,j,y,hj=>by simp at hj
 | z::l,i,h,j,y,hj=>by
  simp only [fY.L1,Bool.cond_eq_ite] at h
  split at h
  ·cases h
  ·next hc=>
   simp only [Bool.or_eq_true,not_or,bne_iff_ne,ne_eq,Classical.not_not,Bool.not_eq_true',Bool.not_eq_false] at hc
   cases j with
   | zero=>simp at hj;subst hj;exact ⟨hc.1.1.2,hc.2⟩
   | succ j=>have:=Gd b l (i+1) h j y (by simpa using hj);rw [show i+(j+1)=i+1+j from by omega];exact this
theorem Bu (p:Policy) (k:Bool):∀ (l:List Rule),fJ.L1 p k l=true→(∀ r∈l,bA p.Offices r.Expr=true)∧k=true
 | [],h=>⟨fun _ h=>(List.not_mem_nil h).elim,h⟩
 | y::l,h=>by
  simp only [fJ.L1,Bool.cond_eq_ite] at h
  split at h
  ·cases h
  ·next hc=>
   obtain ⟨h1,h2⟩:=Bu p k l h
   refine ⟨fun z hz=>?_,h2⟩
   rcases List.mem_cons.1 hz with rfl | hz
   ·simpa using hc
   ·exact h1 z hz
theorem DO (k:Bool):∀ (l:List Rule),eu.L1 k l=false→∀ r∈l,il r.Expr=false
 | [],_=>fun _ h=>(List.not_mem_nil h).elim
 | y::l,h=>by
  simp only [eu.L1,Bool.cond_eq_ite] at h
  split at h
  ·cases h
  ·next hc=>
   intro z hz
   rcases List.mem_cons.1 hz with rfl | hz
   ·simpa using hc
   ·exact DO k l h z hz
theorem zQ (p:Policy) (k:Bool):∀ (l:List Rule) (i:Nat),e5.L1 p k l i=true→(∀ (j:Nat) r,l[j]? = some r→((r.Kind.toList==(nthI p.Kinds (((i+j:Nat):Int))).toList)=true∧0≤r.Think∧r.Think < 1099511627776)∧aA r.Expr true=true)∧k=true
 | [],i,h=>⟨fun j r hj=>by simp at hj,h⟩
 | y::l,i,h=>by
  simp only [e5.L1,Bool.cond_eq_ite] at h
  split at h
  ·cases h
  ·next hc=>
   simp only [Bool.or_eq_true,not_or,decide_eq_true_eq,Bool.not_eq_true',Bool.not_eq_false] at hc
   obtain ⟨h1,h2⟩:=zQ p k l (i+1) h
   refine ⟨fun j r hj=>?_,h2⟩
   cases j with
   | zero=>simp at hj;subst hj;exact ⟨⟨hc.1.1.1,by omega,by omega⟩,hc.2⟩
   | succ j=>have:=h1 j r (by simpa using hj);rw [show i+(j+1)=i+1+j from by omega];exact this
theorem vH {p:Policy} (hs:smP p) (h:ed p=0):bZ p=0:=by
 unfold ed at h
 rw [Bool.cond_eq_ite] at h
 split at h
 ·next hc=>exact absurd h (by simpa using hc)
 ·next hR=>
  rw [Bool.cond_eq_ite] at h
  split at h
  ·omega
  ·next hS=>
   simp only [Bool.not_eq_true',Bool.not_eq_false] at hS
   unfold dh at hR hS
   cases hl:eu p with
   | true=>rw [hl] at hR;simp at hR
   | false=>
    rw [hl] at hR hS
    cases hn:fJ p with
    | false=>rw [hn] at hR;simp at hR
    | true=>
     rw [hn] at hR hS
     cases hf:e5 p with
     | false=>rw [hf] at hR;simp at hR
     | true=>
      rw [hf] at hS
      simp only [Bool.not_true,cond_false,uN,List.nil_append] at hS
      clear hR h
      unfold eu at hl
      rw [Bool.cond_eq_ite] at hl
      split at hl
      ·cases hl
      ·next h1=>
       simp only [Bool.or_eq_true,not_or,decide_eq_true_eq,Bool.not_eq_true] at h1
       have h2:=DO _ _ hl
       unfold fJ at hn
       rw [Bool.cond_eq_ite] at hn
       split at hn
       ·cases hn
       ·next h3=>
        simp only [Bool.or_eq_true,not_or,Bool.not_eq_true',Bool.not_eq_false] at h3
        obtain ⟨h4,h5⟩:=Bu p _ _ hn
        unfold e5 at hf
        rw [Bool.cond_eq_ite] at hf
        split at hf
        ·cases hf
        ·next h6=>
         simp only [Bool.or_eq_true,not_or,decide_eq_true_eq,bne_iff_ne,ne_eq,Classical.not_not] at h6
         obtain ⟨h7,h8⟩:=zQ p _ _ 0 hf
         unfold fY at hS
         rw [Bool.cond_eq_ite] at hS
         split at hS
         ·cases hS
         ·next h9=>
          simp only [Bool.or_eq_true,not_or,Bool.not_eq_true',Bool.not_eq_false] at h9
          have h10:=Gd p _ 0 hS
          have hexp:∀ x,x∈ai p→(∃ r∈p.Rules,r.Expr=x)∨x=p.Change:=by
           intro x hx
           rw [ku] at hx
           simp only [List.mem_append,List.mem_map,List.mem_singleton] at hx
           exact hx
          rw [vG,oZ,uW,zf]
          refine ⟨⟨⟨⟨by omega,by omega,by omega⟩,fun x hx=>?_⟩,⟨⟨F1 h3.1.1,xm h3.1.2,xm h3.2⟩,fun x hx=>?_⟩,?_⟩,fun j r hj=>?_,wY h9.2⟩
          ·rcases hexp x hx with ⟨r,hr,rfl⟩ | rfl
           ·exact DN (hs.2.1 r hr) (h2 r hr)
           ·exact DN hs.2.2.1 h1.2
          ·rcases hexp x hx with ⟨r,hr,rfl⟩ | rfl
           ·exact DD p.Offices _ (h4 r hr) 1
           ·exact DD p.Offices _ h5 1
          ·unfold aX aX.K1 aX.K2
           rw [ng,vw,yc]
           refine ⟨?_,fun j r hj=>?_,fun j x hj z hz=>?_⟩
           ·simp only [Bool.and_eq_true,decide_eq_true_eq,beq_iff_eq,aH]
            exact ⟨⟨by omega,h6.1.1.2⟩,by omega,by omega⟩
           ·have:=(h7 j r hj).1
            simp only [Bool.and_eq_true,decide_eq_true_eq,aH]
            exact ⟨this.1,this.2.1,by omega⟩
           ·have hlen:(ai p).length=p.Rules.length+1:=by rw [ku];simp
            rw [ku] at hj
            rcases Nat.lt_or_ge j p.Rules.length with hjl | hjl
            ·rw [List.getElem?_append_left (by simpa using hjl),List.getElem?_map] at hj
             obtain ⟨r,hr,rfl⟩:=Option.map_eq_some_iff.1 hj
             refine ⟨(BL true _ (h7 j r hr).2 1 z hz).1,?_⟩
             rw [hlen,wrap64 (by omega)]
             have:decide (((0+j:Nat):Int) < ((p.Rules.length+1:Nat):Int) - 1)=true:=by rw [decide_eq_true_eq];omega
             rw [this];rfl
            ·rw [List.getElem?_append_right (by simpa using hjl)] at hj
             have hj2:=List.mem_singleton.1 (List.mem_of_getElem? hj)
             subst hj2
             obtain ⟨k1,k2⟩:=BL false _ h8 1 z hz
             refine ⟨k1,?_⟩
             have:(z.x.Kind != 4)=true:=by simpa using k2 rfl
             rw [this,Bool.or_true]
          ·have h11:=h10 j _ (yC p.Offices p.Rules 0 j r hj)
           have hlt:=(List.getElem?_eq_some_iff.1 hj).1
           have hg:=bJ (xs:=p.Rules) (z:=((0+j:Nat):Int)) (by omega)
           rw [show (((0+j:Nat):Int)).toNat=j from by omega,hj] at hg
           rw [← Option.some.inj hg] at h11
           dsimp only at h11
           exact ⟨by rw [← h11.1];simp,wY h11.2⟩
def IR (v:Version):Prop:=(0≤v.No∧v.No≤1048576)∧(0≤v.At∧v.At < 1099511627776)∧(0≤v.Known∧v.Known < 1099511627776)∧ed v.Policy=0
theorem F8 {L:List Version} {y:Version} {l:List Version} {i:Nat} (h:cw.L1 L cw.K1 (y::l) i=0):IR y∧(0 < i→(nthI L ((i:Int) - 1)).No < y.No)∧cw.L1 L cw.K1 l (i+1)=0:=by
 simp only [cw.L1,Bool.cond_eq_ite] at h
 split at h
 ·omega
 ·next hc=>
  simp only [Bool.or_eq_true,not_or,decide_eq_true_eq,Bool.and_eq_true,Bool.not_eq_true',Bool.not_eq_false,bne_iff_ne,ne_eq,Classical.not_not,cn] at hc
  obtain ⟨⟨⟨⟨h1,h2⟩,h3⟩,h4⟩,h5⟩:=hc
  exact ⟨⟨by omega,h3,h4,h5⟩,fun hi=>by omega,h⟩
theorem F9 (L:List Version):∀ (l pre:List Version) (x:Version),L=(pre++[x])++l→cw.L1 L cw.K1 l (pre.length+1)=0→(∀ y∈l,IR y)∧(x::l).Pairwise (fun a b=>a.No < b.No)
 | [],_,_,_,_=>⟨fun _ h=>(List.not_mem_nil h).elim,by simp⟩
 | y::l,pre,x,h,hr=>by
  have hx:nthI L (((pre.length+1:Nat):Int) - 1)=x:=by
   have hb:0≤(((pre.length+1:Nat):Int) - 1)∧(((pre.length+1:Nat):Int) - 1) < (L.length:Int):=by rw [h];simp;omega
   have hg:=bJ hb
   rw [show ((((pre.length+1:Nat):Int) - 1)).toNat=pre.length from by omega,h] at hg
   rw [h];simpa using hg.symm
  obtain ⟨h1,h2,h3⟩:=F8 hr
  have h2:=h2 (by omega)
  rw [hx] at h2
  have ih:=F9 L l (pre++[x]) y (by rw [h];simp)
  rw [List.length_append,List.length_cons,List.length_nil,Nat.zero_add] at ih
  obtain ⟨i1,i2⟩:=ih h3
  refine ⟨fun z hz=>?_,List.pairwise_cons.2 ⟨fun z hz=>?_,i2⟩⟩
  ·rcases List.mem_cons.1 hz with rfl | hz
   ·exact h1
   ·exact i1 z hz
  ·rcases List.mem_cons.1 hz with rfl | hz
   ·exact h2
   ·have:=(List.pairwise_cons.1 i2).1 z hz;omega
theorem Et {l:List Version} (hs:smV l) (h:cw l=0):bg l=0:=by
 rw [je]
 unfold cw at h
 rw [Bool.cond_eq_ite] at h
 split at h
 ·omega
 ·next hl=>
  simp only [decide_eq_true_eq] at hl
  have key:(∀ y∈l,IR y)∧l.Pairwise (fun a b=>a.No < b.No):=by
   cases l with
   | nil=>exact ⟨fun _ h=>(List.not_mem_nil h).elim,List.Pairwise.nil⟩
   | cons y l=>
    obtain ⟨h1,_,h3⟩:=F8 h
    obtain ⟨i1,i2⟩:=F9 (y::l) l [] y rfl h3
    refine ⟨fun z hz=>?_,i2⟩
    rcases List.mem_cons.1 hz with rfl | hz
    ·exact h1
    ·exact i1 z hz
  refine ⟨by omega,fun v hv=>?_,key.2⟩
  have:=key.1 v hv
  obtain ⟨h1,h2,h3,h4⟩:=this
  exact ⟨by omega,by omega,h1,vH (hs.2 v hv) h4⟩
theorem Hr {r:Register} {doc:Int} {who:List Int} {known:Int} (hj:eP r=0) (hD:0≤bp r doc) (hk:0≤known∧known < 1099511627776) (hp:(∀ x∈who,0≤x∧x < 64)∧who.Pairwise (· < ·)):
  ∃ s,cZ r doc who known=(s,0)∧xP (aP ⟨r,nthI r.Docs (bp r doc),known⟩ who) s 1099511627776:=by
 obtain ⟨d1,d2,d3,d4,d5,d6,d7⟩:=(oB r).1 hj
 obtain ⟨hd1,hd2,hd3⟩:=pj hD
 have hd:=sW d6 _ hd2
 have hv:=(je r.Versions).1 d5
 have hask:=Kr (r:=r) (doc:=doc) (known:=known) hD hk
 have c1:=(ns r.Appoints).symm.trans d1
 have c3:=(kQ r.Interests).symm.trans d3
 generalize hdd:nthI r.Docs (bp r doc)=d at *
 refine ⟨(aB ⟨r,d,known⟩).foldl (stepT (aP ⟨r,d,known⟩ who)) [],?_,?_⟩
 ·unfold cZ
  rw [hj,Ag,hask,Af hp]
  rfl
 ·refine D1 (fun x hx=>?_) fun a b h0 hab hs=>CC who hd.JV hd.kind.1 h0 hab hs
  rcases hx with rfl | rfl | rfl | ⟨a,ha,rfl⟩ | ⟨a,ha,rfl⟩ | ⟨v,hvm,rfl | ⟨y,hy,rfl⟩⟩
  ·exact Int.le_refl _
  ·exact hd.at_.1
  ·have:=hd.eo;show 0≤d.Until;omega
  ·exact IN c1 a ha
  ·exact IL c3 a ha
  ·exact (hv.each v hvm).1.1
  ·have h1:=((hv.okV.2 v hvm).2 y hy).1
   have h2:=hd.at_.1
   show 0≤d.At+y.Think;omega
theorem zc:∀ (a:List Span) (c t:Int),okS a c→t≤c→inS a t=false
 | [],c,t,_,_=>rfl
 | x::a,c,t,⟨h1,h2,h3,h4⟩,ht=>by
  have ih:=zc a x.Until t h4 (by omega)
  have:decide (x.From≤t)=false:=by simp;omega
  simp only [inS,List.any_cons,this,Bool.false_and,Bool.false_or] at ih ⊢
  exact ih
theorem wu {s:List Span} {x:Span} (h:x∈s) {t:Int} (h1:x.From≤t) (h2:t < x.Until):inS s t=true:=
 List.any_eq_true.2 ⟨x,h,by simp [h1,h2]⟩
theorem pW (x:Span) (a:List Span) (t:Int):inS (x::a) t=((decide (x.From≤t)&&decide (t < x.Until))||inS a t):=rfl
theorem Dz:∀ (a b:List Span) (c:Int),-1≤c→okS a c→okS b c→(∀ t,c < t→t < 1099511627776→inS a t=inS b t)→a=b
 | [],[],_,_,_,_,_=>rfl
 | [],y::b,c,hc,_,⟨h1,h2,h3,_⟩,h=>by
  have:=h y.From h1 (by omega)
  rw [wu (List.mem_cons_self ..) (Int.le_refl _) h2] at this
  cases this
 | x::a,[],c,hc,⟨h1,h2,h3,_⟩,_,h=>by
  have:=h x.From h1 (by omega)
  rw [wu (List.mem_cons_self ..) (Int.le_refl _) h2] at this
  cases this
 | x::a,y::b,c,hc,⟨h1,h2,h3,h4⟩,⟨k1,k2,k3,k4⟩,h=>by
  have ina:∀ t,c < t→t < 1099511627776→x.From≤t→t < x.Until→y.From≤t:=fun t ht hE u1 u2=>by
   have e:=h t ht hE
   rw [wu (List.mem_cons_self ..) u1 u2] at e
   by_cases g:y.From≤t
   ·exact g
   ·have g1:decide (y.From≤t)=false:=by simpa using g
    rw [pW,g1,zc b y.Until t k4 (by omega)] at e
    cases e
  have inb:∀ t,c < t→t < 1099511627776→y.From≤t→t < y.Until→x.From≤t:=fun t ht hE u1 u2=>by
   have e:=(h t ht hE).symm
   rw [wu (List.mem_cons_self ..) u1 u2] at e
   by_cases g:x.From≤t
   ·exact g
   ·have g1:decide (x.From≤t)=false:=by simpa using g
    rw [pW,g1,zc a x.Until t h4 (by omega)] at e
    cases e
  have eF:x.From=y.From:=by
   have a1:=ina x.From h1 (by omega) (Int.le_refl _) h2
   have a2:=inb y.From k1 (by omega) (Int.le_refl _) k2
   omega
  have eU:x.Until=y.Until:=by
   rcases Int.lt_trichotomy x.Until y.Until with g | g | g
   ·have e:=h x.Until (by omega) (by omega)
    rw [wu (s:=y::b) (List.mem_cons_self ..) (show y.From≤x.Until by omega) g] at e
    have g1:decide (x.Until < x.Until)=false:=by simp
    rw [pW,g1,zc a x.Until x.Until h4 (Int.le_refl _)] at e
    simp at e
   ·exact g
   ·have e:=h y.Until (by omega) (by omega)
    rw [wu (s:=x::a) (List.mem_cons_self ..) (show x.From≤y.Until by omega) g] at e
    have g1:decide (y.Until < y.Until)=false:=by simp
    rw [pW,g1,zc b y.Until y.Until k4 (Int.le_refl _)] at e
    simp at e
  have exy:x=y:=by cases x;cases y;simp only at eF eU;rw [eF,eU]
  subst exy
  congr 1
  refine Dz a b x.Until (by omega) h4 k4 fun t ht hE=>?_
  have e:=h t (by omega) hE
  have g1:decide (t < x.Until)=false:=by simp;omega
  rw [pW,pW,g1,Bool.and_false,Bool.false_or,Bool.false_or] at e
  exact e
theorem xP.uniq {f g:Int→Bool} {a b:List Span} (ha:xP f a 1099511627776) (hb:xP g b 1099511627776) (h:∀ t,0≤t→t < 1099511627776→f t=g t):a=b:=
 Dz a b (-1) (Int.le_refl _) ha.ok hb.ok fun t h1 h2=>by rw [ha.is t (by omega) h2,hb.is t (by omega) h2,h t (by omega) h2]
theorem C4 (b:List Span):∀ (l pre:List Span),b=pre++l→dO.L1 b true l pre.length=true
 | [],_,_=>rfl
 | y::l,pre,h=>by
  have hx:nthI b (pre.length:Int)=y:=by
   have hb:0≤(pre.length:Int)∧(pre.length:Int) < (b.length:Int):=by rw [h];simp;omega
   have hg:=bJ hb
   rw [show (pre.length:Int).toNat=pre.length from by omega,h] at hg
   rw [h];simpa using hg.symm
  have ih:=C4 b l (pre++[y]) (by rw [h];simp)
  rw [List.length_append,List.length_cons,List.length_nil,Nat.zero_add] at ih
  simp only [dO.L1,hx,decide_true,Bool.not_true,cond_false]
  exact ih
theorem Gp (s:List Span):dO s s=true:=by
 unfold dO
 have:=C4 s s [] rfl
 simp only [bne_self_eq_false,cond_false]
 exact this
theorem wg {α : Type} {R:α→Bool} {no:α→Int} {c:Int} (hc:c≠0):∀ (l:List α) (g:Int),prgChk R no c l g=0↔(∀ y∈l,R y=true∧g < no y)∧l.Pairwise (fun a b=>no a < no b)
 | [],g=>by simp [prgChk]
 | y::l,g=>by
  have ih:=wg hc l (no y) (R:=R) (no:=no)
  simp only [prgChk,Bool.cond_eq_ite,Bool.or_eq_true,Bool.not_eq_true',decide_eq_true_eq]
  split
  ·next h=>simp only [hc,false_iff];rintro ⟨h1,_⟩;have:=h1 y (List.mem_cons_self ..);rcases h with h | h <;> simp_all;omega
  ·next h=>
   rw [ih]
   simp only [not_or,Bool.not_eq_false,Int.not_le] at h
   constructor
   ·rintro ⟨h1,h2⟩
    refine ⟨fun z hz=>?_,List.pairwise_cons.2 ⟨fun z hz=>(h1 z hz).2,h2⟩⟩
    rcases List.mem_cons.1 hz with rfl | hz
    ·exact h
    ·have:=h1 z hz;exact ⟨this.1,by omega⟩
   ·rintro ⟨h1,h2⟩
    obtain ⟨p1,p2⟩:=List.pairwise_cons.1 h2
    exact ⟨fun z hz=>⟨(h1 z (List.mem_cons_of_mem _ hz)).1,p1 z hz⟩,p2⟩
theorem officesP (l:List Appoint) (g:Int):co.L1 co.K1 l g=prgChk jB (·.No) 150 l g:=by
 induction l generalizing g with
 | nil=>rfl
 | cons y l ih=>simp only [co.L1,prgChk,ih]
theorem interestsP (l:List Interest) (g:Int):bK.L1 bK.K1 l g=prgChk jp (·.No) 290 l g:=by
 induction l generalizing g with
 | nil=>rfl
 | cons y l ih=>simp only [bK.L1,prgChk,ih]
def stMap (t known:Int):List Interest→List (cm×Interest)→List (cm×Interest)
 | [],m=>m
 | y::l,m=>bif (decide (t < y.At)||decide (known < y.Known)) then stMap t known l m else bif ((!(mhas m (cm.mk y.Person y.Party y.Of)))||decide ((mgetD m (cm.mk y.Person y.Party y.Of) (Interest.mk 0 0 0 0 0 false false)).At≤y.At)) then stMap t known l (mput m (cm.mk y.Person y.Party y.Of) y) else stMap t known l m
theorem wS (t known:Int) (k:List (cm×Interest)→List Interest):∀ (l:List Interest) m,bu.L1 t known k l m=k (stMap t known l m)
 | [],m=>rfl
 | y::l,m=>by
  simp only [bu.L1,stMap,wS t known k l]
  cases (decide (t < y.At)||decide (known < y.Known)) <;> cases ((!(mhas m (cm.mk y.Person y.Party y.Of)))||decide ((mgetD m (cm.mk y.Person y.Party y.Of) (Interest.mk 0 0 0 0 0 false false)).At≤y.At)) <;> rfl
theorem pM (v:List (cm×Interest)):∀ l:List Interest,bo.L1 v [] l=l.filter fun y=>(!y.Gone)&&decide (mgetD v (cm.mk y.Person y.Party y.Of) (Interest.mk 0 0 0 0 0 false false)=y)
 | []=>rfl
 | y::l=>by
  simp only [bo.L1,List.filter_cons,pM v l]
  cases ((!y.Gone)&&decide (mgetD v (cm.mk y.Person y.Party y.Of) (Interest.mk 0 0 0 0 0 false false)=y)) <;> rfl
theorem rightH {hs:List (List Holder)} {n:Int} (h:cd hs n=true):∀ l∈hs,∀ y∈l,1≤y.Weight∧y.Weight≤64:=by
 have h3:∀ (k:List Int→Bool) (l:List Holder) (g:List Int),cd.L3 k l g=true→(∀ y∈l,1≤y.Weight∧y.Weight≤64)∧∃ g',k g'=true:=by
  intro k l
  induction l with
  | nil=>exact fun g h=>⟨fun _ h=>(List.not_mem_nil h).elim,g,h⟩
  | cons y l ih=>
   intro g h
   simp only [cd.L3,Bool.cond_eq_ite] at h
   split at h
   ·cases h
   ·next hc=>
    simp only [Bool.or_eq_true,decide_eq_true_eq,not_or] at hc
    obtain ⟨h1,h2⟩:=ih _ h
    refine ⟨fun z hz=>?_,h2⟩
    rcases List.mem_cons.1 hz with rfl | hz
    ·omega
    ·exact h1 z hz
 have h1:∀ (k:Bool) (l:List (List Holder)),cd.L1 k l=true→∀ m∈l,∀ y∈m,1≤y.Weight∧y.Weight≤64:=by
  intro k l
  induction l with
  | nil=>exact fun _ _ h=>(List.not_mem_nil h).elim
  | cons y l ih=>
   intro h m hm
   obtain ⟨h4,g',hg⟩:=h3 _ _ _ h
   simp only [Bool.cond_eq_ite] at hg
   split at hg
   ·cases hg
   ·rcases List.mem_cons.1 hm with rfl | hm
    ·exact h4
    ·exact ih hg m hm
 exact h1 _ hs h
theorem Ez (q:aR) (o:Int):fg q o=(nthI q.holders o).filter fun y=>q.who.contains y.Person:=by
 have:∀ l:List Holder,bN.L1 q [] l=l.filter fun y=>q.who.contains y.Person:=by
  intro l
  induction l with
  | nil=>rfl
  | cons y l ih=>
   simp only [bN.L1,slices_BinarySearch_int,List.filter_cons,ih]
   cases q.who.contains y.Person <;> rfl
 exact this _
structure K9 (q q':aR):Prop where
 value:q'.value=q.value
 holders:q'.holders=q.holders
 who:∀ l∈q.holders,∀ y∈l,y.Person∈q.who→y.Person∈q'.who
 wt:∀ l∈q.holders,∀ y∈l,1≤y.Weight∧y.Weight≤64
 len:∀ l∈q.holders,l.length≤2000000
theorem FL {α : Type} [Inhabited α] {P:α→Prop} {l:List α} (h:∀ y∈l,P y) (hd:P default) (z:Int):P (nthI l z):=by
 by_cases hz:z.toNat < l.length
 ·have:nthI l z=l[z.toNat]:=by simp [nthI,List.getD_eq_getElem?_getD,hz]
  rw [this];exact h _ (List.getElem_mem _)
 ·have:nthI l z=default:=by simp [nthI,List.getD_eq_getElem?_getD,hz]
  rw [this];exact hd
def wsum (l:List Holder):Int:=(l.map (·.Weight)).sum
theorem AP (k:Int→Bool):∀ (l:List Holder) (g:Int),0≤g→g+64 * l.length≤1000000000000→(∀ y∈l,1≤y.Weight∧y.Weight≤64)→cr.L1 k l g=k (g+wsum l)
 | [],g,_,_,_=>by simp [cr.L1,wsum]
 | y::l,g,h0,hb,h=>by
  have hy:=h y (List.mem_cons_self ..)
  rw [List.length_cons] at hb
  have e:IntKind.wrap .i64 (g+y.Weight)=g+y.Weight:=wrap64 (by omega)
  simp only [cr.L1,e]
  rw [AP k l _ (by omega) (by omega) fun z hz=>h z (List.mem_cons_of_mem _ hz)]
  simp only [wsum,List.map_cons,List.sum_cons]
  rw [Int.add_assoc]
theorem HW (rec:aR→Expr→Bool) (q:aR) (k:Int→Bool):∀ (l:List Expr) (g:Int),0≤g→g+l.length≤1000000000000→dp.L1 rec q k l g=k (g+(l.countP (rec q):Nat))
 | [],g,_,_=>by simp [dp.L1]
 | y::l,g,h0,hb=>by
  rw [List.length_cons] at hb
  have e:IntKind.wrap .i64 (g+1)=g+1:=wrap64 (by omega)
  simp only [dp.L1,e]
  rw [HW rec q k l g h0 (by omega),HW rec q k l (g+1) (by omega) (by omega),List.countP_cons]
  cases rec q y
  ·simp
  ·simp only [cond_true,if_true];congr 1;omega
theorem wC (f:Bool→Bool):∀ (l:List Bool) (i:Nat),decide (0≤du.L1 f du.K1 l i)=l.any f
 | [],i=>rfl
 | y::l,i=>by
  have ih:=wC f l (i+1)
  simp only [du.L1,List.any_cons,Bool.cond_eq_ite]
  split
  ·next h=>rw [h];simp
  ·next h=>rw [ih];simp [h]
def decV (mode:Int) (l:List Bool):Bool:=bif mode==4 then l.any id else bif mode==3 then l.any id&&!(l.any fun b=>!b) else ((l.length:Int)==1)&&nthI l 0
theorem GO (mode:Int) (l:List Bool):eT mode l=bif ft mode l != 0 then (false,ft mode l) else (decV mode l,0):=by
 have y1:decide (0≤bX l dH)=l.any id:=wC _ l 0
 have y2:decide (0≤bX l eN)=l.any fun b=>!b:=wC _ l 0
 have L1:∀ (s:List Bool) i g,(aM.L1 (aM.K1 l) s i g).2=(l.any id,0):=by
  intro s
  induction s with
  | nil=>intro i g;simp only [aM.L1,aM.K1,y1]
  | cons y s ih=>intro i g;exact ih _ _
 have L2:∀ (s:List Bool) i g,(aM.L2 (aM.K2 l) s i g).2=(((l.length:Int)==1)&&nthI l 0,0):=by
  intro s
  induction s with
  | nil=>intro i g;rfl
  | cons y s ih=>intro i g;exact ih _ _
 have L3:∀ (s:List Bool) i g,(aM.L3 aM.K3 s i g).2=(false,0):=by
  intro s
  induction s with
  | nil=>intro i g;rfl
  | cons y s ih=>intro i g;exact ih _ _
 have e:eT mode l=(aM mode l).2:=rfl
 rw [e]
 unfold aM decV
 rw [y1,y2]
 cases (ft mode l != 0) with
 | true=>rfl
 | false=>
  simp only [cond_false]
  by_cases h4:mode=4
  ·subst h4
   cases h:l.any id with
   | true=>rfl
   | false=>
    have:((4:Int)==3)=false:=rfl
    simp only [beq_self_eq_true,Bool.and_false,cond_false,this,Bool.false_and,bne_self_eq_false,L3,cond_true]
  ·have e4:(mode==4)=false:=by simpa using h4
   have n4:(mode != 4)=true:=by simpa using h4
   rw [e4,n4]
   simp only [Bool.false_and,cond_false,cond_true]
   by_cases h3:mode=3
   ·subst h3
    cases h:l.any fun b=>!b with
    | true=>simp
    | false=>simp only [beq_self_eq_true,Bool.and_false,cond_false,L1,cond_true,Bool.not_false,Bool.and_true]
   ·have e3:(mode==3)=false:=by simpa using h3
    rw [e3]
    simp only [Bool.false_and,cond_false,L2]
theorem BX (l:List Interest) (a b:Int):∃ p:Interest→Bool,bu l a b=l.filter p:=by
 have h1:∀ v (l:List Interest),bo.L1 v [] l=l.filter fun y=>(!y.Gone)&&decide (mgetD v (cm.mk y.Person y.Party y.Of) (Interest.mk 0 0 0 0 0 false false)=y):=by
  intro v l
  induction l with
  | nil=>rfl
  | cons y l ih=>
   simp only [bo.L1,List.filter_cons,ih]
   cases ((!y.Gone)&&decide (mgetD v (cm.mk y.Person y.Party y.Of) (Interest.mk 0 0 0 0 0 false false)=y)) <;> rfl
 have h2:∀ (k:List (cm×Interest)→List Interest) (l:List Interest) m,∃ m',bu.L1 a b k l m=k m':=by
  intro k l
  induction l with
  | nil=>exact fun m=>⟨m,rfl⟩
  | cons y l ih=>
   intro m
   simp only [bu.L1,Bool.cond_eq_ite]
   split
   ·exact ih _
   ·split
    ·exact ih _
    ·exact ih _
 obtain ⟨m',e⟩:=h2 (bu.K1 l) l []
 exact ⟨_,by unfold bu;rw [e];exact h1 m' l⟩
theorem C3 (l:List Interest) (a b:Int):(bu l a b).length≤l.length:=by
 obtain ⟨p,e⟩:=BX l a b
 rw [e];exact List.length_filter_le _ _
theorem zh {α : Type} {k:Int} {v:α}:∀ {m:List (Int×α)},k∉m.map (·.1)→(mput m k v).length=m.length+1∧∀ p∈mput m k v,p=(k,v)∨p∈m
 | [],_=>by simp [mput]
 | (k',v')::m,hk=>by
  simp only [List.map_cons,List.mem_cons,not_or] at hk
  obtain ⟨h1,h2⟩:=zh (v:=v) hk.2
  simp only [mput,hk.1,if_false,List.length_cons,h1,List.mem_cons,true_and]
  rintro p (rfl | hp)
  ·exact .inr (.inl rfl)
  ·rcases h2 p hp with h | h
   ·exact .inl h
   ·exact .inr (.inr h)
theorem Cp {st:List Interest} {m:List (Int×Bool)} {q:List fO} (hg:qi st m q) {k:Int} (h:mgetD m k false=false):k∉m.map (·.1):=by
 intro hk
 obtain ⟨⟨k',v⟩,hp,rfl⟩:=List.mem_map.1 hk
 have:∀ {m:List (Int×Bool)},(∀ p∈m,p.2=true)→k'∈m.map (·.1)→mgetD m k' false=true:=by
  intro m
  induction m with
  | nil=>intro _ h;simp at h
  | cons p m ih=>
   intro ha hm
   obtain ⟨a,b⟩:=p
   by_cases e:k'=a
   ·have:=ha (a,b) (List.mem_cons_self ..)
    simp only at this
    simp [mgetD,mget?,e,this]
   ·simp only [List.map_cons,List.mem_cons,e,false_or] at hm
    have:=ih (fun p hp=>ha p (List.mem_cons_of_mem _ hp)) hm
    simpa [mgetD,mget?,e] using this
 rw [this (fun p hp=>(hg.1 p hp).1) hk] at h
 cases h
theorem pw {st:List Interest} {m:List (Int×Bool)} {q:List fO} {w:fO} (hg:qi st m q) (hw:w.to∈st.map (·.Party)) (h8:w.path.length≤8):qi st (conPut w m q).1 (conPut w m q).2:=by
 unfold conPut
 cases h:mgetD m w.to false with
 | true=>exact hg
 | false=>
  obtain ⟨h1,h2⟩:=zh (v:=true) (Cp hg h)
  refine ⟨fun p hp=>?_,?_,fun w' hw'=>?_⟩
  ·rcases h2 p hp with rfl | hp
   ·exact ⟨rfl,hw⟩
   ·exact hg.1 p hp
  ·show (q++[w]).length≤(mput m w.to true).length
   rw [h1,List.length_append];have:=hg.2.1;simp;omega
  ·rcases List.mem_append.1 (show w'∈q++[w] from hw') with hw' | hw'
   ·exact hg.2.2 w' hw'
   ·rw [List.mem_singleton.1 hw'];exact h8
theorem sF {st:List Interest} {m:List (Int×Bool)} {q:List fO} {k:Int} {cap:Nat} (hg:qi st m q) (hn:(m.map (·.1)).Nodup) (hk:k∈st.map (·.Party)) (hc:st.length≤cap) (h:mgetD m k false=false):q.length < cap:=by
 have h1:=Cp hg h
 have h2:(k::m.map (·.1)).length≤(st.map (·.Party)).length:=sR (List.nodup_cons.2 ⟨h1,hn⟩) (fun x hx=>by
  rcases List.mem_cons.1 hx with rfl | hx
  ·exact hk
  ·obtain ⟨p,hp,rfl⟩:=List.mem_map.1 hx;exact (hg.1 p hp).2)
 simp only [List.length_cons,List.length_map] at h2
 have:=hg.2.1
 omega
theorem H4 {st:List Interest} {m:List (Int×Bool)} {q:List fO} (hg:qi st m q) (hn:(m.map (·.1)).Nodup):m.length≤st.length:=by
 have:=sR (b:=st.map (·.Party)) hn (fun x hx=>by obtain ⟨p,hp,rfl⟩:=List.mem_map.1 hx;exact (hg.1 p hp).2)
 simpa using this
theorem CD {m:List (Int×Bool)} {q:List fO} {w:fO} (hn:(m.map (·.1)).Nodup):((conPut w m q).1.map (·.1)).Nodup:=by
 unfold conPut
 cases mgetD m w.to false with
 | true=>exact hn
 | false=>exact gS _ _ hn
theorem Eo {st:List Interest} {m:List (Int×Bool)} {q:List fO} {w:fO} {N:Nat} (hg:qi st m q) (hn:(m.map (·.1)).Nodup) (hw:w.to∈st.map (·.Party)) (hN:st.length≤N):
  (conPut w m q).2.length+(N - (conPut w m q).1.length)≤q.length+(N - m.length):=by
 unfold conPut
 cases h:mgetD m w.to false with
 | true=>simp
 | false=>
  obtain ⟨h1,_⟩:=zh (v:=true) (Cp hg h)
  have h2:qi st (mput m w.to true) []:=by
   have:=pw (w:=⟨[],w.to⟩) (q:=[]) (st:=st) (m:=m) ⟨hg.1,Nat.zero_le _,fun _ h=>(List.not_mem_nil h).elim⟩ hw (by simp)
   simp only [conPut,h,cond_false] at this
   exact ⟨this.1,Nat.zero_le _,fun _ h=>(List.not_mem_nil h).elim⟩
  have h3:=H4 h2 (gS w.to true hn)
  show (q++[w]).length+(N - (mput m w.to true).length)≤_
  rw [h1] at h3
  rw [h1,List.length_append]
  simp;omega
theorem qF {α : Type} (m:List (Int×α)) (k j:Int) (v z:α):mgetD (mput m k v) j z=if j=k then v else mgetD m j z:=by
 induction m with
 | nil=>by_cases h:j=k <;> simp [mput,mgetD,mget?,h]
 | cons p m ih=>
  obtain ⟨a,b⟩:=p
  by_cases h:k=a
  ·subst h
   by_cases h2:j=k <;> simp [mput,mgetD,mget?,h2]
  ·by_cases h2:j=a
   ·subst h2
    have:¬ j=k:=fun e=>h e.symm
    simp [mput,h,mgetD,mget?,this]
   ·simp only [mgetD] at ih ⊢
    simp only [mput,h,if_false,mget?,h2]
    exact ih
theorem Gh.put {st:List Interest} {f:List (Int×List Interest)} (hf:Gh st f) {k:Int} {x:Interest} (hx:x∈st):Gh st (mput f k (mgetD f k []++[x])):=by
 intro j y hy
 rw [qF] at hy
 split at hy
 ·rcases List.mem_append.1 hy with hy | hy
  ·exact hf k y hy
  ·rw [List.mem_singleton.1 hy];exact hx
 ·exact hf j y hy
theorem sO {α : Type} (A B:List α) (x y:α):(A++x::y::B).Perm (y::x::(A++B)):=
 List.perm_middle.trans ((List.Perm.cons x List.perm_middle).trans (List.Perm.swap y x _))
theorem vE {st:List Interest} {path:List Int} {N:Nat} (hN:st.length≤N) (h8:path.length+1≤8):∀ {xs:List Interest} {m:List (Int×Bool)} {q:List fO},(∀ x∈xs,x∈st)→qi st m q→(m.map (·.1)).Nodup →
  (conStep path xs m q).2.length+(N - (conStep path xs m q).1.length)≤q.length+(N - m.length)
 | [],m,q,_,_,_=>Nat.le_refl _
 | x::xs,m,q,hx,hg,hn=>by
  have hp:(fO.mk (path++[x.No]) x.Party).to∈st.map (·.Party):=List.mem_map_of_mem (hx x (List.mem_cons_self ..))
  have h1:=Eo (w:=⟨path++[x.No],x.Party⟩) hg hn hp hN
  have h2:=vE (path:=path) hN h8 (xs:=xs) (fun y hy=>hx y (List.mem_cons_of_mem _ hy)) (pw hg hp (by simpa using h8)) (CD hn)
  simp only [conStep]
  exact Nat.le_trans h2 h1
theorem gP (l:List Int) (n:Int):(dy l n).length≤l.length+1:=by
 have key:∀ (s:List Int) (i:Nat),(dy.L1 n (dy.K1 l n) s i).length≤l.length+1:=by
  have hk:∀ i,(dy.K1 l n i).length≤l.length+1:=by
   intro i
   unfold dy.K1
   rw [Bool.cond_eq_ite]
   split
   ·omega
   ·simp only [List.length_append,List.length_take,List.length_drop,List.length_cons,List.length_nil];omega
  intro s
  induction s with
  | nil=>exact hk
  | cons y s ih=>
   intro i
   simp only [dy.L1,Bool.cond_eq_ite]
   split
   ·exact ih _
   ·exact hk _
 exact key l 0
theorem B9 (l:List Version) (a b c:Int):(bj l a b c).length≤l.length+1:=by
 have k1:∀ (s:List Version) (g:List Int),(bj.L1 l a b c bj.K1 s g).length≤g.length+s.length:=by
  intro s
  induction s with
  | nil=>intro g;simp [bj.L1,bj.K1]
  | cons y s ih=>
   intro g
   simp only [bj.L1,Bool.cond_eq_ite,List.length_cons]
   split
   ·have h1:=gP g ((nthI l (aw l y.At c)).No)
    have h2:=ih (dy g ((nthI l (aw l y.At c)).No))
    omega
   ·have:=ih g;omega
 have k2:∀ (s:List Version) (g:List Int),(bj.L2 l a b c bj.K2 s g).length≤g.length+s.length:=by
  intro s
  induction s with
  | nil=>intro g;simp [bj.L2,bj.K2]
  | cons y s ih=>
   intro g
   simp only [bj.L2,Bool.cond_eq_ite,List.length_cons]
   split
   ·have h1:=gP g ((nthI l (aw l y.At c)).No)
    have h2:=ih (dy g ((nthI l (aw l y.At c)).No))
    omega
   ·have:=ih g;omega
 unfold bj
 rw [Bool.cond_eq_ite]
 split
 ·have h1:=k1 l (dy [] ((nthI l (aw l a c)).No))
  have h2:=gP [] ((nthI l (aw l a c)).No)
  simp only [List.length_nil] at h2;omega
 ·have:=k2 l []
  simp only [List.length_nil] at this;omega
theorem Do (l:List Version) (a b c:Int):(dJ l a b c).1.length≤l.length+1:=by
 have:=B9 l a b c
 unfold dJ
 simp only [Bool.cond_eq_ite]
 repeat' split
 all_goals first
  | exact this
  | (simp only [List.length_nil,List.length_cons];omega)
theorem Cd (l:List Appoint) (a b c:Int):(bS l a b c).1.length≤64:=by
 have k1:∀ (s:List Nat) (i:Nat) (g:List Holder),(bS.L1 l a b c bS.K1 s i g).1.length≤g.length+s.length:=by
  intro s
  induction s with
  | nil=>intro i g;simp [bS.L1,bS.K1]
  | cons y s ih=>
   intro i g
   simp only [bS.L1,Bool.cond_eq_ite,List.length_cons]
   split
   ·refine Nat.le_trans (ih _ _) ?_
    simp only [List.length_append,List.length_cons,List.length_nil];omega
   ·have:=ih (i+1) g;omega
 unfold bS
 simp only [Bool.cond_eq_ite]
 repeat' split
 ·exact Nat.zero_le _
 ·exact Nat.zero_le _
 ·have:=k1 (List.range 64) 0 []
  simp only [List.length_range,List.length_nil] at this;omega
theorem wB (so:Bool):∀ (l:List Bool) (i:Nat),decide (eG.L1 so eG.K1 l i < 0)=!(l.any fun b=>b==so)
 | [],i=>rfl
 | y::l,i=>by
  have ih:=wB so l (i+1)
  simp only [eG.L1,List.any_cons,Bool.cond_eq_ite]
  split
  ·next h=>rw [h,Bool.true_or];simp
  ·next h=>rw [ih,Bool.eq_false_iff.2 h,Bool.false_or]
theorem GG (so:Bool) (l:List Bool):decide (0≤eG l so)=l.any fun b=>b==so:=by
 have h:=wB so l 0
 have e:decide (0≤eG l so)=!(decide (eG l so < 0)):=by
  rw [Bool.eq_iff_iff];simp only [decide_eq_true_eq,Bool.not_eq_true',decide_eq_false_iff_not];omega
 rw [e]
 show (!(decide (eG.L1 so eG.K1 l 0 < 0)))=_
 rw [h,Bool.not_not]
theorem decide27 (mode:Int) (l:List Bool):iB mode l=eT mode l:=by
 rw [GO]
 have hE:jV mode l=ft mode l:=by
  unfold jV ft
  by_cases hm:1≤mode∧mode≤4
  ·have h1:(decide (mode < 1)||decide (4 < mode))=false:=by simp;omega
   have h2:mhas gO mode=true:=by
    have:mode=1∨mode=2∨mode=3∨mode=4:=by omega
    rcases this with rfl | rfl | rfl | rfl <;> rfl
   rw [h1,h2];rfl
  ·have h1:(decide (mode < 1)||decide (4 < mode))=true:=by
    simp only [Bool.or_eq_true,decide_eq_true_eq];omega
   have h2:mhas gO mode=false:=by
    have n1:¬ mode=1:=by omega
    have n2:¬ mode=2:=by omega
    have n3:¬ mode=3:=by omega
    have n4:¬ mode=4:=by omega
    simp [mhas,gO,mput,mget?,n1,n2,n3,n4]
   rw [h1,h2];rfl
 unfold iB
 rw [hE]
 congr 1
 congr 1
 unfold jG decV
 have a1:(l.any fun b=>b==true)=l.any id:=by congr 1;funext b;cases b <;> rfl
 have a2:(l.any fun b=>b==false)=l.any fun b=>!b:=by congr 1;funext b;cases b <;> rfl
 have f1:=wB false l 0
 rw [show eG.L1 false eG.K1 l 0=eG l false from rfl,a2] at f1
 rw [f1,GG,a1]
 by_cases h3:mode=3
 ·subst h3
  have hl:(decide (0 < (l.length:Int))&&!(l.any fun b=>!b))=(l.any id&&!(l.any fun b=>!b)):=by
   cases l with
   | nil=>rfl
   | cons b l=>cases b <;> simp
  exact hl
 ·have e3:(mode==3)=false:=by simpa using h3
  rw [e3]
  simp only [cond_false]
theorem has21 (n:Int):∀ l:List Int,ik l n=l.contains n
 | []=>rfl
 | y::l=>by
  have ih:=has21 n l
  unfold ik at ih ⊢
  simp only [ik.L1,List.contains_cons,ih,Bool.cond_eq_ite]
  split
  ·next h=>rw [show (n==y)=true from by simp only [beq_iff_eq] at h ⊢;exact h.symm,Bool.true_or]
  ·next h=>rw [show (n==y)=false from by simp only [beq_iff_eq] at h;simp;exact fun e=>h e.symm,Bool.false_or]
theorem Ef (who:List Int) (k:Int→Bool) (b:Bool) (hk:∀ g,k g=b):∀ (l:List Holder) (g:Int),ba.L1 who k l g=((l.any fun y=>who.contains y.Person)||b)
 | [],g=>by simp [ba.L1,hk]
 | y::l,g=>by
  have ih:=Ef who k b hk l
  simp only [ba.L1,has21,Bool.and_true,List.any_cons]
  cases who.contains y.Person <;> simp [ih]
theorem uC (who:List Int) (k:Int→Bool):∀ (l:List Holder) (g:Int),0≤g→g+64 * l.length≤1000000000000→(∀ y∈l,1≤y.Weight∧y.Weight≤64)→ba.L3 who k l g=k (g+wsum (l.filter fun y=>who.contains y.Person))
 | [],g,_,_,_=>by simp [ba.L3,wsum]
 | y::l,g,h0,hb,h=>by
  have hy:=h y (List.mem_cons_self ..)
  have hl:=fun z hz=>h z (List.mem_cons_of_mem y hz)
  rw [List.length_cons] at hb
  have e:IntKind.wrap .i64 (g+y.Weight)=g+y.Weight:=wrap64 (by omega)
  simp only [ba.L3,has21,Bool.and_false,cond_false,e,List.filter_cons]
  cases who.contains y.Person with
  | true=>
   simp only [cond_true,if_true]
   rw [uC who k l _ (by omega) (by omega) hl]
   simp only [wsum,List.map_cons,List.sum_cons]
   rw [Int.add_assoc]
  | false=>
   simp only [cond_false,Bool.false_eq_true,if_false]
   rw [uC who k l _ h0 (by omega) hl]
theorem E5 (rec:Expr→Int→List (List Holder)→List Int→Bool) (v:Int) (hs:List (List Holder)) (w:List Int) (k:Int→Bool):∀ (l:List Expr) (g:Int),0≤g→g+l.length≤1000000000000→ba.L4 rec v hs w k l g=k (g+(l.countP fun y=>rec y v hs w:Nat))
 | [],g,_,_=>by simp [ba.L4]
 | y::l,g,h0,hb=>by
  rw [List.length_cons] at hb
  have e:IntKind.wrap .i64 (g+1)=g+1:=wrap64 (by omega)
  simp only [ba.L4,e]
  rw [E5 rec v hs w k l g h0 (by omega),E5 rec v hs w k l (g+1) (by omega) (by omega),List.countP_cons]
  cases rec y v hs w
  ·simp
  ·simp only [cond_true,if_true];congr 1;omega
theorem fulfil21 {v:Int} {hs:List (List Holder)} {w:List Int} {n:Int} (hw:∀ l∈hs,∀ y∈l,1≤y.Weight∧y.Weight≤64) (hl:∀ l∈hs,l.length≤2000000):∀ (m:Nat) (x:Expr),x.dep≤2000000→OkX n x→ba.go m x v hs w=ck.go m ⟨v,hs,w⟩ x
 | 0,x,_,_=>rfl
 | m+1,x,hd,ho=>by
  have ih:=fulfil21 (v:=v) (w:=w) (n:=n) hw hl m
  have hk:=ho.kind
  have hH:(∀ y∈nthI hs x.No,1≤y.Weight∧y.Weight≤64)∧(nthI hs x.No).length≤2000000:=FL (P:=fun l:List Holder=>(∀ y∈l,1≤y.Weight∧y.Weight≤64)∧l.length≤2000000) (fun l hl2=>⟨hw l hl2,hl l hl2⟩) ⟨(fun _ h=>(List.not_mem_nil h).elim),Nat.zero_le _⟩ x.No
  have hc:x.Kind=1∨x.Kind=2∨x.Kind=3∨x.Kind=4:=by omega
  simp only [ba.go,ba.F,ck.go,ck.F,fulQ]
  rcases hc with e | e | e | e
  ·rw [e]
   simp only [beq_self_eq_true,cond_true,if_true]
   rw [Ef w _ false (fun g=>by simp [ba.K1,e]),Bool.or_false]
   unfold cG
   rw [Ez]
   show ((nthI hs x.No).any fun y=>w.contains y.Person)=cG.L1 cG.K1 ((nthI hs x.No).filter fun y=>w.contains y.Person) false
   cases hf:(nthI hs x.No).filter fun y=>w.contains y.Person with
   | nil=>
    rw [List.filter_eq_nil_iff] at hf
    rw [List.any_eq_false.2 hf];rfl
   | cons y l=>
    have hy:y∈(nthI hs x.No).filter fun y=>w.contains y.Person:=by rw [hf];exact List.mem_cons_self ..
    obtain ⟨h1,h2⟩:=List.mem_filter.1 hy
    rw [List.any_eq_true.2 ⟨y,h1,h2⟩];rfl
  ·rw [e]
   have n1:((2:Int)==1)=false:=rfl
   simp only [n1,beq_self_eq_true,cond_true,cond_false,show ¬ (2:Int)=1 from by decide,if_true,if_false]
   unfold cr
   rw [Ez,uC w _ _ _ (Int.le_refl _) (by omega) hH.1]
   have h1:=List.length_filter_le (fun y:Holder=>w.contains y.Person) (nthI hs x.No)
   rw [AP _ _ _ (Int.le_refl _) (by show (0:Int)+64 * ((List.filter (fun y:Holder=>w.contains y.Person) (nthI hs x.No)).length:Nat)≤_;omega) fun y hy=>hH.1 y (List.mem_filter.1 hy).1]
   rfl
  ·rw [e]
   have n1:((3:Int)==1)=false:=rfl
   have n2:((3:Int)==2)=false:=rfl
   simp only [n1,n2,beq_self_eq_true,cond_true,cond_false,show ¬ (3:Int)=1 from by decide,show ¬ (3:Int)=2 from by decide,if_true,if_false]
   unfold dp.F
   have hln:=Expr.EV x
   rw [E5 _ _ _ _ _ _ _ (Int.le_refl _) (by omega),HW _ _ _ _ _ (Int.le_refl _) (by omega)]
   have:(x.L.countP fun y=>ba.go m y v hs w)=x.L.countP (ck.go m ⟨v,hs,w⟩):=List.countP_congr fun y hy=>by rw [ih y (by have:=Expr.gk hy;omega) (ho.sub y hy)]
   rw [this];rfl
  ·rw [e]
   have n1:((4:Int)==1)=false:=rfl
   have n2:((4:Int)==2)=false:=rfl
   have n3:((4:Int)==3)=false:=rfl
   simp only [n1,n2,n3,cond_true,cond_false,show ¬ (4:Int)=1 from by decide,show ¬ (4:Int)=2 from by decide,show ¬ (4:Int)=3 from by decide,if_true,if_false]
   unfold gZ.F
   have h2:=ho.two e
   have m0:nthI x.L 0∈x.L:=fm (by omega)
   have m1:nthI x.L 1∈x.L:=fm (by omega)
   rw [ih _ (by have:=Expr.gk m0;omega) (ho.sub _ m0),ih _ (by have:=Expr.gk m1;omega) (ho.sub _ m1)]
theorem uv {α : Type} (f:α→Int):∀ {a b:List α},a.Pairwise (fun x y=>f x < f y)→b.Pairwise (fun x y=>f x < f y)→(∀ x,x∈a↔x∈b)→a=b
 | [],[],_,_,_=>rfl
 | [],y::b,_,_,h=>absurd ((h y).2 (List.mem_cons_self ..)) List.not_mem_nil
 | x::a,[],_,_,h=>absurd ((h x).1 (List.mem_cons_self ..)) List.not_mem_nil
 | x::a,y::b,ha,hb,h=>by
  obtain ⟨a1,a2⟩:=List.pairwise_cons.1 ha
  obtain ⟨b1,b2⟩:=List.pairwise_cons.1 hb
  have e:x=y:=by
   rcases List.mem_cons.1 ((h x).1 (List.mem_cons_self ..)) with e | h1
   ·exact e
   ·rcases List.mem_cons.1 ((h y).2 (List.mem_cons_self ..)) with e | h2
    ·exact e.symm
    ·have:=a1 y h2;have:=b1 x h1;omega
  subst e
  congr 1
  refine uv f a2 b2 fun z=>⟨fun hz=>?_,fun hz=>?_⟩
  ·rcases List.mem_cons.1 ((h z).1 (List.mem_cons_of_mem _ hz)) with e | h1
   ·subst e;have:=a1 z hz;omega
   ·exact h1
  ·rcases List.mem_cons.1 ((h z).2 (List.mem_cons_of_mem _ hz)) with e | h1
   ·subst e;have:=b1 z hz;omega
   ·exact h1
def lastA (t known:Int) (s:OSeat) (acc:Option Appoint) (y:Appoint):Option Appoint:=
 bif (decide (y.At≤t)&&decide (y.Known≤known))&&((y.Office==s.office)&&(y.Person==s.person)) then (match acc with
  | none=>some y
  | some a=>bif decide (a.At≤y.At) then some y else some a) else acc
theorem DQ (t known:Int) (s:OSeat):∀ (l:List Appoint) (m:List (OSeat×Appoint)),mget? (bE.L1 (fun dX=>dE dX t known) e9 bE.K1 l m) s=l.foldl (lastA t known s) (mget? m s)
 | [],m=>rfl
 | y::l,m=>by
  have ih:=DQ t known s l
  simp only [bE.L1,List.foldl_cons]
  rw [Bool.cond_eq_ite]
  have hkey:(dE y t known).1=OSeat.mk y.Office y.Person:=rfl
  have hcnt:(dE y t known).2=(decide (y.At≤t)&&decide (y.Known≤known)):=rfl
  rw [hkey,hcnt]
  by_cases hs:s=OSeat.mk y.Office y.Person
  ·subst hs
   have e1:((y.Office==(OSeat.mk y.Office y.Person).office)&&(y.Person==(OSeat.mk y.Office y.Person).person))=true:=by simp
   cases hc:(decide (y.At≤t)&&decide (y.Known≤known)) with
   | false=>
    rw [if_neg (by simp),ih]
    congr 1
    simp only [lastA,hc,Bool.false_and,cond_false]
   | true=>
    cases hm:mget? m (OSeat.mk y.Office y.Person) with
    | none=>
     have h1:mhas m (OSeat.mk y.Office y.Person)=false:=by unfold mhas;rw [hm];rfl
     rw [h1,if_pos (by simp),ih,jQ,if_pos rfl]
     congr 1
     simp only [lastA,hc,e1,Bool.and_true,cond_true]
    | some a=>
     have h1:mhas m (OSeat.mk y.Office y.Person)=true:=by unfold mhas;rw [hm];rfl
     have h2:mgetD m (OSeat.mk y.Office y.Person) (Appoint.mk 0 0 0 0 0 0 false)=a:=by unfold mgetD;rw [hm];rfl
     rw [h1,h2]
     by_cases ha:a.At≤y.At
     ·have h3:e9 a y=false:=by simp [e9];omega
      rw [h3,if_pos (by simp),ih,jQ,if_pos rfl]
      congr 1
      have:decide (a.At≤y.At)=true:=by simpa using ha
      simp only [lastA,hc,e1,Bool.and_true,cond_true,this]
     ·have h3:e9 a y=true:=by simp [e9];omega
      rw [h3,if_neg (by simp),ih,hm]
      congr 1
      have:decide (a.At≤y.At)=false:=by simpa using ha
      simp only [lastA,hc,e1,Bool.and_true,cond_true,this,cond_false]
  ·have e1:((y.Office==s.office)&&(y.Person==s.person))=false:=by
    rw [Bool.eq_false_iff]
    intro h
    simp only [Bool.and_eq_true,beq_iff_eq] at h
    exact hs (by cases s;simp only at h;rw [h.1,h.2])
   have e2:lastA t known s (mget? m s) y=mget? m s:=by simp only [lastA,e1,Bool.and_false,cond_false]
   rw [e2]
   split
   ·rw [ih,jQ,if_neg hs]
   ·rw [ih]
theorem last15 {L:List Appoint} (o p t known:Int):∀ (l pre:List Appoint) (g:Int) (acc:Option Appoint),L=pre++l→(g < 0∧acc=none∨0≤g∧acc=some (nthI L g)) →
  (cx.L1 L o p t known cx.K1 l pre.length g < 0∧l.foldl (lastA t known ⟨o,p⟩) acc=none)∨(0≤cx.L1 L o p t known cx.K1 l pre.length g∧l.foldl (lastA t known ⟨o,p⟩) acc=some (nthI L (cx.L1 L o p t known cx.K1 l pre.length g)))
 | [],pre,g,acc,_,h=>h
 | y::l,pre,g,acc,hL,h=>by
  have hx:nthI L (pre.length:Int)=y:=jb (by rw [hL];simp)
  have ih:=fun (g':Int) (acc':Option Appoint)=>last15 (L:=L) o p t known l (pre++[y]) g' acc' (by rw [hL];simp)
  rw [List.length_append,List.length_cons,List.length_nil,Nat.zero_add] at ih
  simp only [cx.L1,List.foldl_cons,iC]
  have ec:(((y.Office==o)&&(y.Person==p))&&(decide (y.At≤t)&&decide (y.Known≤known)))=((decide (y.At≤t)&&decide (y.Known≤known))&&((y.Office==o)&&(y.Person==p))):=Bool.and_comm _ _
  rw [ec]
  cases hc:((decide (y.At≤t)&&decide (y.Known≤known))&&((y.Office==o)&&(y.Person==p))) with
  | false=>
   rw [Bool.false_and,cond_false]
   have:lastA t known ⟨o,p⟩ acc y=acc:=by simp only [lastA,hc,cond_false]
   rw [this]
   exact ih g acc h
  | true=>
   rw [Bool.true_and]
   rcases h with ⟨h1,h2⟩ | ⟨h1,h2⟩
   ·have e1:(decide (g < 0)||decide ((nthI L g).At≤y.At))=true:=by simp [h1]
    rw [e1,cond_true]
    subst h2
    have:lastA t known ⟨o,p⟩ none y=some y:=by simp only [lastA,hc,cond_true]
    rw [this]
    exact ih _ _ (.inr ⟨by omega,by rw [hx]⟩)
   ·subst h2
    have e0:decide (g < 0)=false:=by simp;omega
    rw [e0,Bool.false_or]
    cases ha:decide ((nthI L g).At≤y.At) with
    | true=>
     rw [cond_true]
     have:lastA t known ⟨o,p⟩ (some (nthI L g)) y=some y:=by simp only [lastA,hc,cond_true,ha]
     rw [this]
     exact ih _ _ (.inr ⟨by omega,by rw [hx]⟩)
    | false=>
     rw [cond_false]
     have:lastA t known ⟨o,p⟩ (some (nthI L g)) y=some (nthI L g):=by simp only [lastA,hc,cond_true,ha,cond_false]
     rw [this]
     exact ih _ _ (.inr ⟨h1,rfl⟩)
theorem w5 (l:List Appoint) (o t known:Int):∀ (s:List Nat) (i:Nat) (g:List Holder),s=List.range' i s.length→bS.L1 l o t known bS.K1 s i g=(g++(s.filterMap fun (p:Nat)=>bif (decide (0≤cx l o (p:Int) t known)&&!((nthI l (cx l o (p:Int) t known)).Gone)) then some (Holder.mk (p:Int) (nthI l (cx l o (p:Int) t known)).Weight) else none),0)
 | [],i,g,_=>by simp [bS.L1,bS.K1]
 | y::s,i,g,h=>by
  rw [List.length_cons,List.range'_succ] at h
  obtain ⟨h1,h2⟩:=List.cons.inj h
  have ih:=fun g=>w5 l o t known s (i+1) g h2
  simp only [bS.L1,ih,List.filterMap_cons]
  subst h1
  cases (decide (0≤cx l o (y:Int) t known)&&!((nthI l (cx l o (y:Int) t known)).Gone)) <;> simp
theorem uw (key:Appoint→OSeat×Bool) (later:Appoint→Appoint→Bool):∀ (l:List Appoint) m,(m.map (·.1)).Nodup→((bE.L1 key later bE.K1 l m).map (·.1)).Nodup
 | [],m,h=>h
 | y::l,m,h=>by
  simp only [bE.L1,Bool.cond_eq_ite]
  split
  ·exact uw key later l _ (gS _ _ h)
  ·exact uw key later l _ h
theorem vl {κ α : Type} [DecidableEq κ] {x:κ} {v:α}:∀ {m:List (κ×α)},mget? m x=some v→x∈m.map (·.1)
 | [],h=>by cases h
 | (k,w)::m,h=>by
  unfold mget? at h
  split at h
  ·next e=>rw [e];exact List.mem_cons_self ..
  ·exact List.mem_cons_of_mem _ (vl h)
theorem zn (t known:Int) (s:OSeat):∀ (l:List Appoint) (acc:Option Appoint),(∀ a,acc=some a→a.Office=s.office∧a.Person=s.person)→∀ a,l.foldl (lastA t known s) acc=some a→a.Office=s.office∧a.Person=s.person
 | [],acc,h,a,e=>h a e
 | y::l,acc,h,a,e=>by
  refine zn t known s l (lastA t known s acc y) (fun b hb=>?_) a e
  unfold lastA at hb
  rw [Bool.cond_eq_ite] at hb
  split at hb
  ·next hc=>
   simp only [Bool.and_eq_true,beq_iff_eq] at hc
   cases acc with
   | none=>obtain rfl:=Option.some.inj hb;exact hc.2
   | some c=>
    simp only [Bool.cond_eq_ite] at hb
    split at hb
    ·obtain rfl:=Option.some.inj hb;exact hc.2
    ·obtain rfl:=Option.some.inj hb;exact h c rfl
  ·exact h b hb
theorem BA (t known:Int) (s:OSeat):∀ (l:List Appoint) (acc:Option Appoint) a,l.foldl (lastA t known s) acc=some a→a∈l∨acc=some a
 | [],acc,a,e=>.inr e
 | y::l,acc,a,e=>by
  rcases BA t known s l (lastA t known s acc y) a e with h | h
  ·exact .inl (List.mem_cons_of_mem _ h)
  ·unfold lastA at h
   rw [Bool.cond_eq_ite] at h
   split at h
   ·cases acc with
    | none=>obtain rfl:=Option.some.inj h;exact .inl (List.mem_cons_self ..)
    | some c=>
     simp only [Bool.cond_eq_ite] at h
     split at h
     ·obtain rfl:=Option.some.inj h;exact .inl (List.mem_cons_self ..)
     ·exact .inr h
   ·exact .inr h
theorem GM {l:List Appoint} (hc:co l=0) {o t known:Int} (ho:0≤o∧o < 32) (ht:0≤t∧t < 1099511627776) (hk:0≤known∧known < 1099511627776):bS l o t known=dc l o t known:=by
 have h1:∀ x:Int,0≤x∧x < 1099511627776→cN x=true:=fun x hx=>by simp only [cN,dv,Bool.and_eq_true,decide_eq_true_eq];omega
 have h2:e6 o=true:=by simp only [e6,dv,Bool.and_eq_true,decide_eq_true_eq];omega
 have r1:∀ x:Int,0≤x∧x < 1099511627776→ib x=true:=fun x hx=>by simp only [ib,Bool.and_eq_true,decide_eq_true_eq];omega
 have r2:jx o=true:=by simp only [jx,Bool.and_eq_true,decide_eq_true_eq];omega
 have hl:∀ y∈l,0≤y.Person∧y.Person < 64:=by
  have h:=hc
  unfold co at h
  rw [officesP,Bool.cond_eq_ite] at h
  split at h
  ·omega
  ·intro y hy
   have:=(((wg (by omega) l (-1)).1 h).1 y hy).1
   unfold jB at this
   rw [Bool.cond_eq_ite] at this
   split at this <;> simp only [Bool.and_eq_true,gf,dv,decide_eq_true_eq] at this <;> omega
 unfold bS dc
 rw [← ns,hc,h1 t ht,h1 known hk,h2,r1 t ht,r1 known hk,r2]
 simp only [bne_self_eq_false,cond_false,Bool.not_true,Bool.or_self]
 rw [w5 l o t known (List.range 64) 0 [] (by rw [List.length_range];exact List.range_eq_range'),xp,List.nil_append]
 congr 1
 unfold gx bF bF.K1
 rw [oE]
 have hget:∀ s,mget? (dV l t known) s=l.foldl (lastA t known s) none:=fun s=>DQ t known s l []
 have hnd:((dV l t known).map (·.1)).Nodup:=uw _ _ l [] List.nodup_nil
 generalize dV l t known=m at *
 have hval:∀ s v,mget? m s=some v→mgetD m s (Appoint.mk 0 0 0 0 0 0 false)=v:=fun s v e=>by unfold mgetD;rw [e];rfl
 have hseat:∀ s v,mget? m s=some v→(v.Office=s.office∧v.Person=s.person)∧v∈l:=fun s v e=>by
  rw [hget] at e
  exact ⟨zn t known s l none (fun _ h=>by cases h) v e,(BA t known s l none v e).resolve_right (by simp)⟩
 have hlast:∀ p:Int,(cx l o p t known < 0∧mget? m ⟨o,p⟩=none)∨(0≤cx l o p t known∧mget? m ⟨o,p⟩=some (nthI l (cx l o p t known))):=fun p=>by
  rw [hget]
  exact last15 (L:=l) o p t known l [] (-1) none rfl (.inl ⟨by omega,rfl⟩)
 refine uv (fun h:Holder=>h.Person) ?_ ?_ fun x=>?_
 ·rw [List.pairwise_filterMap]
  refine List.pairwise_lt_range.imp fun {a b} hab x hx y hy=>?_
  rw [Bool.cond_eq_ite] at hx hy
  split at hx
  ·split at hy
   ·rw [← Option.some.inj hx,← Option.some.inj hy];show (a:Int) < (b:Int);omega
   ·cases hy
  ·cases hx
 ·rw [List.pairwise_filterMap]
  have hss:=qp (office:=o) ((li (m.map Prod.fst)).nodup_iff.2 hnd) (qr (m.map Prod.fst))
  refine hss.imp_of_mem fun {a b} ha hb hab x hx y hy=>?_
  have hpa:∀ s x,s∈(seatS (m.map Prod.fst)).filter (fun y=>y.office==o)→(bif (mgetD m s (Appoint.mk 0 0 0 0 0 0 false)).Gone then none else some (Holder.mk (mgetD m s (Appoint.mk 0 0 0 0 0 0 false)).Person (mgetD m s (Appoint.mk 0 0 0 0 0 0 false)).Weight))=some x→x.Person=s.person:=fun s x hs hx=>by
   rw [Bool.cond_eq_ite] at hx
   split at hx
   ·cases hx
   ·obtain ⟨v,hv,_⟩:=mv ((li _).mem_iff.1 (List.mem_filter.1 hs).1)
    rw [← Option.some.inj hx,hval s v hv];exact (hseat s v hv).1.2
  rw [hpa a x ha hx,hpa b y hb hy];exact hab
 ·rw [List.mem_filterMap,List.mem_filterMap]
  constructor
  ·rintro ⟨p,hp,hx⟩
   rw [Bool.cond_eq_ite] at hx
   split at hx
   ·next hg=>
    simp only [Bool.and_eq_true,decide_eq_true_eq,Bool.not_eq_true'] at hg
    rcases hlast (p:Int) with ⟨q1,_⟩ | ⟨_,q2⟩
    ·omega
    ·refine ⟨⟨o,(p:Int)⟩,List.mem_filter.2 ⟨(li _).mem_iff.2 (vl q2),by simp⟩,?_⟩
     rw [hval _ _ q2,hg.2,← Option.some.inj hx,(hseat _ _ q2).1.2];rfl
   ·cases hx
  ·rintro ⟨s,hs,hx⟩
   obtain ⟨hs1,hs2⟩:=List.mem_filter.1 hs
   obtain ⟨v,hv,_⟩:=mv ((li _).mem_iff.1 hs1)
   have ho2:s.office=o:=by simpa using hs2
   obtain ⟨⟨g1,g2⟩,g3⟩:=hseat s v hv
   have hb:=hl v g3
   rw [hval s v hv,Bool.cond_eq_ite] at hx
   split at hx
   ·cases hx
   ·next hg=>
    have es:s=⟨o,v.Person⟩:=by cases s;simp only at ho2 g2;rw [ho2,g2]
    refine ⟨v.Person.toNat,by rw [List.mem_range];omega,?_⟩
    rw [show (v.Person.toNat:Int)=v.Person from by omega]
    rcases hlast v.Person with ⟨_,q2⟩ | ⟨q1,q2⟩
    ·rw [← es,hv] at q2;cases q2
    ·rw [← es,hv] at q2
     have hv2:=Option.some.inj q2
     rw [← hv2,show decide (0≤cx l o v.Person t known)=true from by simpa using q1,show v.Gone=false from by simpa using hg,← Option.some.inj hx];rfl
def lastV (t known:Int) (acc:Option Version) (y:Version):Option Version:=
 bif decide (y.At≤t)&&decide (y.Known≤known) then (match acc with
  | none=>some y
  | some a=>bif decide (a.At≤y.At) then some y else some a) else acc
def FV (t known:Int) (l:List Version):Option Version:=l.foldl (lastV t known) none
theorem py (t known:Int) (l:List Version) (y:Version):FV t known (l++[y])=lastV t known (FV t known l) y:=by simp [FV,List.foldl_append]
theorem force20 {L:List Version} (t known:Int):∀ (l pre:List Version) (g:Int) (acc:Option Version),L=pre++l→(g < 0∧acc=none∨0≤g∧acc=some (nthI L g)) →
  (aw.L1 L t known aw.K1 l pre.length g < 0∧l.foldl (lastV t known) acc=none)∨(0≤aw.L1 L t known aw.K1 l pre.length g∧l.foldl (lastV t known) acc=some (nthI L (aw.L1 L t known aw.K1 l pre.length g)))
 | [],pre,g,acc,_,h=>h
 | y::l,pre,g,acc,hL,h=>by
  have hx:nthI L (pre.length:Int)=y:=jb (by rw [hL];simp)
  have ih:=fun (g':Int) (acc':Option Version)=>force20 (L:=L) t known l (pre++[y]) g' acc' (by rw [hL];simp)
  rw [List.length_append,List.length_cons,List.length_nil,Nat.zero_add] at ih
  simp only [aw.L1,List.foldl_cons]
  cases hc:(decide (y.At≤t)&&decide (y.Known≤known)) with
  | false=>
   rw [Bool.false_and,cond_false]
   have:lastV t known acc y=acc:=by simp only [lastV,hc,cond_false]
   rw [this]
   exact ih g acc h
  | true=>
   rw [Bool.true_and]
   rcases h with ⟨h1,h2⟩ | ⟨h1,h2⟩
   ·have e1:(decide (g < 0)||decide ((nthI L g).At≤y.At))=true:=by simp [h1]
    rw [e1,cond_true]
    subst h2
    have:lastV t known none y=some y:=by simp only [lastV,hc,cond_true]
    rw [this]
    exact ih _ _ (.inr ⟨by omega,by rw [hx]⟩)
   ·subst h2
    have e0:decide (g < 0)=false:=by simp;omega
    rw [e0,Bool.false_or]
    cases ha:decide ((nthI L g).At≤y.At) with
    | true=>
     rw [cond_true]
     have:lastV t known (some (nthI L g)) y=some y:=by simp only [lastV,hc,cond_true,ha]
     rw [this]
     exact ih _ _ (.inr ⟨by omega,by rw [hx]⟩)
    | false=>
     rw [cond_false]
     have:lastV t known (some (nthI L g)) y=some (nthI L g):=by simp only [lastV,hc,cond_true,ha,cond_false]
     rw [this]
     exact ih _ _ (.inr ⟨h1,rfl⟩)
theorem Eg (l:List Version) (t known:Int):(aw l t known < 0∧FV t known l=none)∨(0≤aw l t known∧FV t known l=some (nthI l (aw l t known))):=
 force20 (L:=l) t known l [] (-1) none rfl (.inl ⟨by omega,rfl⟩)
theorem mg (t known:Int):∀ (l:List Version) (acc:Option Version) (v:Version),(∀ a,acc=some a→a.At≤t)→l.foldl (lastV t known) acc=some v →
  (v∈l∧v.Known≤known∨acc=some v)∧v.At≤t∧(∀ y∈l,y.At≤t→y.Known≤known→y.At≤v.At)∧∀ a,acc=some a→a.At≤v.At
 | [],acc,v,h0,h=>⟨.inr h,h0 v h,fun _ hy=>(List.not_mem_nil hy).elim,fun a ha=>by have h2:acc=some v:=h;rw [h2] at ha;rw [Option.some.inj ha];exact Int.le_refl _⟩
 | y::l,acc,v,h0,h=>by
  rw [List.foldl_cons] at h
  cases hc:(decide (y.At≤t)&&decide (y.Known≤known)) with
  | false=>
   have e:lastV t known acc y=acc:=by simp only [lastV,hc,cond_false]
   rw [e] at h
   obtain ⟨h1,h2,h3,h4⟩:=mg t known l acc v h0 h
   refine ⟨h1.imp (fun q=>⟨List.mem_cons_of_mem _ q.1,q.2⟩) id,h2,fun z hz a b=>?_,h4⟩
   rcases List.mem_cons.1 hz with rfl | hz
   ·simp [a,b] at hc
   ·exact h3 z hz a b
  | true=>
   have hc2:=hc
   simp only [Bool.and_eq_true,decide_eq_true_eq] at hc2
   have step:∀ w,lastV t known acc y=some w→((w=y∧∀ a,acc=some a→a.At≤y.At)∨(acc=some w∧y.At≤w.At)):=fun w hw=>by
    simp only [lastV,hc,cond_true] at hw
    cases acc with
    | none=>exact .inl ⟨(Option.some.inj hw).symm,fun a ha=>by cases ha⟩
    | some a=>
     simp only [Bool.cond_eq_ite,decide_eq_true_eq] at hw
     split at hw
     ·next q=>exact .inl ⟨(Option.some.inj hw).symm,fun b hb=>by rw [← Option.some.inj hb];exact q⟩
     ·next q=>exact .inr ⟨hw,by rw [← Option.some.inj hw];omega⟩
   have hn:∃ w,lastV t known acc y=some w:=by
    simp only [lastV,hc,cond_true]
    cases acc with
    | none=>exact ⟨_,rfl⟩
    | some a=>dsimp only;cases decide (a.At≤y.At) <;> exact ⟨_,rfl⟩
   obtain ⟨w,hw⟩:=hn
   have hwt:w.At≤t:=by
    rcases step w hw with ⟨e,_⟩ | ⟨e,_⟩
    ·rw [e];exact hc2.1
    ·exact h0 w e
   obtain ⟨h1,h2,h3,h4⟩:=mg t known l (lastV t known acc y) v (fun a ha=>by rw [hw] at ha;rw [← Option.some.inj ha];exact hwt) h
   have h4w:=h4 w hw
   refine ⟨?_,h2,fun z hz a b=>?_,fun a ha=>?_⟩
   ·rcases h1 with h1 | h1
    ·exact .inl ⟨List.mem_cons_of_mem _ h1.1,h1.2⟩
    ·rcases step v h1 with ⟨e,_⟩ | ⟨e,_⟩
     ·exact .inl ⟨by rw [e];exact List.mem_cons_self ..,by rw [e];exact hc2.2⟩
     ·exact .inr e
   ·rcases List.mem_cons.1 hz with rfl | hz
    ·rcases step w hw with ⟨e,_⟩ | ⟨_,e⟩
     ·rw [← e];exact h4w
     ·omega
    ·exact h3 z hz a b
   ·rcases step w hw with ⟨e,q⟩ | ⟨e,_⟩
    ·have:=q a ha;rw [e] at h4w;omega
    ·rw [e] at ha;rw [← Option.some.inj ha];exact h4w
theorem CI (t known:Int):∀ (l:List Version) (acc:Option Version),l.foldl (lastV t known) acc=none→acc=none∧∀ y∈l,¬ (y.At≤t∧y.Known≤known)
 | [],acc,h=>⟨h,fun _ hy=>(List.not_mem_nil hy).elim⟩
 | y::l,acc,h=>by
  rw [List.foldl_cons] at h
  obtain ⟨h1,h2⟩:=CI t known l _ h
  cases hc:(decide (y.At≤t)&&decide (y.Known≤known)) with
  | false=>
   simp only [lastV,hc,cond_false] at h1
   refine ⟨h1,fun z hz=>?_⟩
   rcases List.mem_cons.1 hz with rfl | hz
   ·intro q;simp [q] at hc
   ·exact h2 z hz
  | true=>
   exfalso
   simp only [lastV,hc,cond_true] at h1
   cases acc with
   | none=>cases h1
   | some a=>dsimp only at h1;cases hd:decide (a.At≤y.At) <;> rw [hd] at h1 <;> cases h1
theorem Ja {α : Type} {P:List α→Prop} (h0:P []) (h1:∀ l x,P l→P (l++[x])) (l:List α):P l:=by
 have:∀ m:List α,P m.reverse:=by
  intro m
  induction m with
  | nil=>exact h0
  | cons x m ih=>rw [List.reverse_cons];exact h1 _ _ ih
 have h:=this l.reverse
 rw [List.reverse_reverse] at h
 exact h
theorem yg {s t known:Int} (hst:s≤t):∀ (l:List Version) (v:Version),FV t known l=some v→v.At≤s→FV s known l=some v:=by
 intro l
 refine Ja (P:=fun l=>∀ v:Version,FV t known l=some v→v.At≤s→FV s known l=some v) ?_ ?_ l
 ·intro v h _;cases h
 ·intro l y ih v h hv
  rw [py] at h ⊢
  cases hc:(decide (y.At≤t)&&decide (y.Known≤known)) with
  | false=>
   have h1:FV t known l=some v:=by simpa only [lastV,hc,cond_false] using h
   have h2:=ih v h1 hv
   rw [h2]
   unfold lastV
   cases hd:(decide (y.At≤s)&&decide (y.Known≤known)) with
   | false=>rfl
   | true=>simp at hd hc;omega
  | true=>
   simp only [lastV,hc,cond_true] at h
   simp only [Bool.and_eq_true,decide_eq_true_eq] at hc
   cases hF:FV t known l with
   | none=>
    rw [hF] at h
    have e:y=v:=Option.some.inj h
    subst e
    have:FV s known l=none:=by
     cases hF2:FV s known l with
     | none=>rfl
     | some w=>
      have h3:=mg s known l none w (fun _ h=>by cases h) hF2
      have h4:=(CI t known l none hF).2 w ((h3.1.resolve_right (by simp)).1)
      exact absurd ⟨by omega,(h3.1.resolve_right (by simp)).2⟩ h4
    rw [this]
    have:(decide (y.At≤s)&&decide (y.Known≤known))=true:=by simp [hv,hc.2]
    simp only [lastV,this,cond_true]
   | some a=>
    rw [hF] at h
    simp only [Bool.cond_eq_ite,decide_eq_true_eq] at h
    split at h
    ·next q=>
     have e:y=v:=Option.some.inj h
     subst e
     have hd:(decide (y.At≤s)&&decide (y.Known≤known))=true:=by simp [hv,hc.2]
     cases hF2:FV s known l with
     | none=>simp only [lastV,hd,cond_true]
     | some w=>
      have h3:=mg s known l none w (fun _ h=>by cases h) hF2
      have h4:=mg t known l none a (fun _ h=>by cases h) hF
      have h5:=h4.2.2.1 w ((h3.1.resolve_right (by simp)).1) (by omega) ((h3.1.resolve_right (by simp)).2)
      have:decide (w.At≤y.At)=true:=by simp;omega
      simp only [lastV,hd,cond_true,this]
    ·next q=>
     have e:a=v:=Option.some.inj h
     subst e
     have h2:=ih a hF hv
     rw [h2]
     unfold lastV
     cases hd:(decide (y.At≤s)&&decide (y.Known≤known)) with
     | false=>rfl
     | true=>
      have:decide (a.At≤y.At)=false:=by simpa using q
      simp only [cond_true,this,cond_false]
structure Jv (f known:Int) (pre:List Version) (b:Int) (m:List (Int×Version)):Prop where
 at_:∀ a,FV f known pre=some a→b=a.At
 no:FV f known pre=none→b=-1
 beg:mget? m f=FV f known pre
 has:∀ t,f < t→(t∈m.map (·.1)↔∃ y∈pre,y.At=t∧y.Known≤known)
 get:∀ t,f < t→t∈m.map (·.1)→∃ v,mget? m t=some v∧FV t known pre=some v∧v.At=t
 low:∀ t,t∈m.map (·.1)→f≤t
theorem H6 {f known:Int} {l pre:List Version} {b:Int} {m:List (Int×Version)} (hpos:∀ y∈pre++l,0≤y.At) (h:Jv f known pre b m):∃ b',Jv f known (pre++l) b' (inForceM known f l b m):=by
 induction l generalizing pre b m with
 | nil=>rw [List.append_nil];exact ⟨b,h⟩
 | cons y l ih=>
  have hy0:=hpos y (by simp)
  have hap:pre++y::l=(pre++[y])++l:=by simp
  rw [hap] at hpos ⊢
  simp only [inForceM,Bool.cond_eq_ite,decide_eq_true_eq]
  split
  ·next hk=>
   have hL:∀ t,FV t known (pre++[y])=FV t known pre:=fun t=>by
    rw [py]
    have:(decide (y.At≤t)&&decide (y.Known≤known))=false:=by simp;omega
    simp only [lastV,this,cond_false]
   refine ih hpos ⟨by rw [hL];exact h.at_,by rw [hL];exact h.no,by rw [hL];exact h.beg,fun t ht=>?_,fun t ht hm=>by rw [hL];exact h.get t ht hm,h.low⟩
   rw [h.has t ht]
   constructor
   ·rintro ⟨z,hz,q⟩;exact ⟨z,List.mem_append_left _ hz,q⟩
   ·rintro ⟨z,hz,q⟩
    rcases List.mem_append.1 hz with hz | hz
    ·exact ⟨z,hz,q⟩
    ·rw [List.mem_singleton.1 hz] at q;omega
  ·next hk=>
   split
   ·next ha=>
    have hcf:(decide (y.At≤f)&&decide (y.Known≤known))=true:=by simp;omega
    have hup:∀ t,f < t→(∃ v,FV t known pre=some v∧v.At=t)→FV t known (pre++[y])=FV t known pre:=fun t ht ⟨v,hv,hvt⟩=>by
     rw [py,hv]
     have hc:(decide (y.At≤t)&&decide (y.Known≤known))=true:=by simp;omega
     have hd:decide (v.At≤y.At)=false:=by simp;omega
     simp only [lastV,hc,cond_true,hd,cond_false]
    have hhas:∀ t,f < t→((∃ z∈pre,z.At=t∧z.Known≤known)↔∃ z∈pre++[y],z.At=t∧z.Known≤known):=fun t ht=>by
     constructor
     ·rintro ⟨z,hz,q⟩;exact ⟨z,List.mem_append_left _ hz,q⟩
     ·rintro ⟨z,hz,q⟩
      rcases List.mem_append.1 hz with hz | hz
      ·exact ⟨z,hz,q⟩
      ·rw [List.mem_singleton.1 hz] at q;omega
    split
    ·next hb=>
     have hF:∃ a,FV f known pre=some a:=by
      cases hf:FV f known pre with
      | none=>have:=h.no hf;omega
      | some a=>exact ⟨a,rfl⟩
     obtain ⟨a,hf⟩:=hF
     have hba:=h.at_ a hf
     have hL:FV f known (pre++[y])=FV f known pre:=by
      rw [py,hf]
      have hd:decide (a.At≤y.At)=false:=by simp;omega
      simp only [lastV,hcf,cond_true,hd,cond_false]
     refine ih hpos ⟨by rw [hL];exact h.at_,by rw [hL];exact h.no,by rw [hL];exact h.beg,fun t ht=>(h.has t ht).trans (hhas t ht),fun t ht hm=>?_,h.low⟩
     obtain ⟨v,g1,g2,g3⟩:=h.get t ht hm
     exact ⟨v,g1,by rw [hup t ht ⟨v,g2,g3⟩];exact g2,g3⟩
    ·next hb=>
     have hL:FV f known (pre++[y])=some y:=by
      rw [py]
      cases hf:FV f known pre with
      | none=>simp only [lastV,hcf,cond_true]
      | some a=>
       have:=h.at_ a hf
       have hd:decide (a.At≤y.At)=true:=by simp;omega
       simp only [lastV,hcf,cond_true,hd]
     refine ih hpos ⟨fun a e=>by rw [hL] at e;rw [← Option.some.inj e],fun e=>(by rw [hL] at e;cases e),by rw [hL,jQ,if_pos rfl],fun t ht=>?_,fun t ht hm=>?_,fun t hm=>?_⟩
     ·rw [jC,← hhas t ht,← h.has t ht]
      exact ⟨fun q=>q.resolve_left (by omega),.inr⟩
     ·have hm2:=((jC _ _ _ _).1 hm).resolve_left (by omega)
      obtain ⟨v,g1,g2,g3⟩:=h.get t ht hm2
      exact ⟨v,by rw [jQ,if_neg (by omega)];exact g1,by rw [hup t ht ⟨v,g2,g3⟩];exact g2,g3⟩
     ·rcases (jC _ _ _ _).1 hm with e | e
      ·omega
      ·exact h.low t e
   ·next ha=>
    have hLf:FV f known (pre++[y])=FV f known pre:=by
     rw [py]
     have:(decide (y.At≤f)&&decide (y.Known≤known))=false:=by simp;omega
     simp only [lastV,this,cond_false]
    refine ih hpos ⟨by rw [hLf];exact h.at_,by rw [hLf];exact h.no,by rw [hLf,jQ,if_neg (by omega)];exact h.beg,fun t ht=>?_,fun t ht hm=>?_,fun t hm=>?_⟩
    ·rw [jC,h.has t ht]
     constructor
     ·rintro (e | ⟨z,hz,q⟩)
      ·exact ⟨y,by simp,e.symm,by omega⟩
      ·exact ⟨z,List.mem_append_left _ hz,q⟩
     ·rintro ⟨z,hz,q⟩
      rcases List.mem_append.1 hz with hz | hz
      ·exact .inr ⟨z,hz,q⟩
      ·rw [List.mem_singleton.1 hz] at q;exact .inl q.1.symm
    ·by_cases e:t=y.At
     ·subst e
      refine ⟨y,by rw [jQ,if_pos rfl],?_,rfl⟩
      rw [py]
      have hc:(decide (y.At≤y.At)&&decide (y.Known≤known))=true:=by simp;omega
      cases hF:FV y.At known pre with
      | none=>simp only [lastV,hc,cond_true]
      | some a=>
       have:=(mg y.At known pre none a (fun _ h=>by cases h) hF).2.1
       have hd:decide (a.At≤y.At)=true:=by simpa using this
       simp only [lastV,hc,cond_true,hd]
     ·have hm2:=((jC _ _ _ _).1 hm).resolve_left e
      obtain ⟨v,g1,g2,g3⟩:=h.get t ht hm2
      refine ⟨v,by rw [jQ,if_neg e];exact g1,?_,g3⟩
      rw [py,g2]
      unfold lastV
      cases hc:(decide (y.At≤t)&&decide (y.Known≤known)) with
      | false=>rfl
      | true=>
       have hd:decide (v.At≤y.At)=false:=by simp at hc;simp;omega
       simp only [cond_true,hd,cond_false]
    ·rcases (jC _ _ _ _).1 hm with e | e
     ·omega
     ·exact h.low t e
theorem Ji {f known:Int} {l:List Version} (hpos:∀ y∈l,0≤y.At):∃ b,Jv f known l b (inForceM known f l (-1) []):=by
 have h0:Jv f known [] (-1) []:=⟨(fun a h=>by cases h),fun _=>rfl,rfl,(fun t _=>by simp),(fun t _ h=>(List.not_mem_nil h).elim),fun t h=>(List.not_mem_nil h).elim⟩
 obtain ⟨b,h⟩:=H6 (l:=l) (pre:=[]) (by simpa using hpos) h0
 exact ⟨b,by simpa using h⟩
theorem HS (W:List Int) (n:Int):∀ (l pre:List Int),W=pre++l→(∀ x∈pre,x < n)→W.Pairwise (· < ·) →
  (dy.L1 n (dy.K1 W n) l pre.length).Pairwise (· < ·)∧∀ x,x∈dy.L1 n (dy.K1 W n) l pre.length↔x=n∨x∈W:=by
 have hK:∀ (l pre:List Int),W=pre++l→(∀ x∈pre,x < n)→(∀ x∈l,n≤x)→W.Pairwise (· < ·)→(dy.K1 W n pre.length).Pairwise (· < ·)∧∀ x,x∈dy.K1 W n pre.length↔x=n∨x∈W:=by
  intro l pre h hp hl hW
  unfold dy.K1
  rw [show (((pre.length:Int):Int)).toNat=pre.length from by omega]
  rw [Bool.cond_eq_ite]
  split
  ·next hc=>
   simp only [Bool.and_eq_true,decide_eq_true_eq,beq_iff_eq] at hc
   have hn:n∈W:=by rw [← hc.2];exact fm ⟨by omega,hc.1⟩
   exact ⟨hW,fun x=>⟨.inr,fun q=>q.elim (fun e=>by rw [e];exact hn) id⟩⟩
  ·next hc=>
   have hnl:∀ x∈l,n < x:=by
    intro x hx
    cases l with
    | nil=>cases hx
    | cons y l=>
     have hy:nthI W (pre.length:Int)=y:=jb (by rw [h];simp)
     rw [hy] at hc
     have hlen:(pre.length:Int) < (W.length:Int):=by rw [h];simp;omega
     have hne:y≠n:=fun e=>hc (by simp [hlen,e])
     have hy2:=hl y (List.mem_cons_self ..)
     rw [h,List.pairwise_append] at hW
     rcases List.mem_cons.1 hx with rfl | hx
     ·omega
     ·have:=(List.pairwise_cons.1 hW.2.1).1 x hx;omega
   rw [h,List.take_left,List.drop_left]
   rw [h,List.pairwise_append] at hW
   refine ⟨?_,fun x=>?_⟩
   ·rw [List.append_assoc,List.pairwise_append]
    refine ⟨hW.1,List.pairwise_cons.2 ⟨hnl,hW.2.1⟩,fun a ha b hb=>?_⟩
    rcases List.mem_cons.1 hb with rfl | hb
    ·exact hp a ha
    ·exact hW.2.2 a ha b hb
   ·simp only [List.mem_append,List.mem_singleton]
    constructor
    ·rintro ((q | q) | q) <;> simp [q]
    ·rintro (q | q | q) <;> simp [q]
 intro l
 induction l with
 | nil=>intro pre h hp hW;exact hK [] pre h hp (fun _ h=>(List.not_mem_nil h).elim) hW
 | cons y l ih=>
  intro pre h hp hW
  simp only [dy.L1,Bool.cond_eq_ite,decide_eq_true_eq]
  split
  ·next hy=>
   have:=ih (pre++[y]) (by rw [h];simp) (fun x hx=>by
    rcases List.mem_append.1 hx with hx | hx
    ·exact hp x hx
    ·rw [List.mem_singleton.1 hx];exact hy) hW
   rw [List.length_append,List.length_cons,List.length_nil,Nat.zero_add] at this
   exact this
  ·next hy=>
   refine hK (y::l) pre h hp (fun x hx=>?_) hW
   rw [h,List.pairwise_append] at hW
   rcases List.mem_cons.1 hx with rfl | hx
   ·omega
   ·have:=(List.pairwise_cons.1 hW.2.1).1 x hx;omega
theorem put27 {l:List Int} (n:Int) (h:l.Pairwise (· < ·)):(dy l n).Pairwise (· < ·)∧∀ x,x∈dy l n↔x=n∨x∈l:=HS l n l [] rfl (fun _ h=>(List.not_mem_nil h).elim) h
theorem between27 (l:List Version) (begun at_ known:Int):(bj l begun at_ known).Pairwise (· < ·)∧∀ n,n∈bj l begun at_ known↔(∃ v,FV begun known l=some v∧v.No=n)∨∃ y∈l,(begun < y.At∧y.At≤at_)∧∃ v,FV y.At known l=some v∧v.No=n:=by
 have hF:∀ t,decide (0≤aw l t known)=(FV t known l).isSome∧∀ v,FV t known l=some v→nthI l (aw l t known)=v:=fun t=>by
  rcases Eg l t known with ⟨h1,h2⟩ | ⟨h1,h2⟩
  ·rw [h2];exact ⟨by simp;omega,fun v h=>by cases h⟩
  ·rw [h2];exact ⟨by simpa using h1,fun v h=>Option.some.inj h⟩
 have step:∀ (s:List Version) (g:List Int),g.Pairwise (· < ·)→(bj.L1 l begun at_ known bj.K1 s g).Pairwise (· < ·)∧∀ n,n∈bj.L1 l begun at_ known bj.K1 s g↔n∈g∨∃ y∈s,(begun < y.At∧y.At≤at_)∧∃ v,FV y.At known l=some v∧v.No=n:=by
  intro s
  induction s with
  | nil=>intro g hg;exact ⟨hg,fun n=>by simp [bj.L1,bj.K1]⟩
  | cons y s ih=>
   intro g hg
   simp only [bj.L1]
   rw [(hF y.At).1]
   cases hc:((decide (begun < y.At)&&decide (y.At≤at_))&&(FV y.At known l).isSome) with
   | true=>
    rw [cond_true]
    simp only [Bool.and_eq_true,decide_eq_true_eq] at hc
    obtain ⟨v,hv⟩:=Option.isSome_iff_exists.1 hc.2
    rw [(hF y.At).2 v hv]
    obtain ⟨p1,p2⟩:=put27 v.No hg
    obtain ⟨q1,q2⟩:=ih _ p1
    refine ⟨q1,fun n=>?_⟩
    rw [q2,p2]
    simp only [List.mem_cons,exists_eq_or_imp]
    constructor
    ·rintro ((e | e) | e)
     ·exact .inr (.inl ⟨hc.1,v,hv,e.symm⟩)
     ·exact .inl e
     ·exact .inr (.inr e)
    ·rintro (e | ⟨_,w,hw,e⟩ | e)
     ·exact .inl (.inr e)
     ·rw [hv] at hw;rw [← Option.some.inj hw] at e;exact .inl (.inl e.symm)
     ·exact .inr e
   | false=>
    rw [cond_false]
    obtain ⟨q1,q2⟩:=ih _ hg
    refine ⟨q1,fun n=>?_⟩
    rw [q2]
    simp only [List.mem_cons,exists_eq_or_imp]
    constructor
    ·rintro (e | e)
     ·exact .inl e
     ·exact .inr (.inr e)
    ·rintro (e | ⟨h1,w,hw,_⟩ | e)
     ·exact .inl e
     ·rw [hw] at hc;simp [h1] at hc
     ·exact .inr e
 have same:∀ (s:List Version) (g:List Int),bj.L2 l begun at_ known bj.K2 s g=bj.L1 l begun at_ known bj.K1 s g:=by
  intro s
  induction s with
  | nil=>intro g;rfl
  | cons y s ih=>intro g;simp only [bj.L2,bj.L1,ih]
 unfold bj
 rw [(hF begun).1]
 cases hb:FV begun known l with
 | none=>
  rw [Option.isSome_none,cond_false,same]
  obtain ⟨q1,q2⟩:=step l [] List.Pairwise.nil
  exact ⟨q1,fun n=>by rw [q2];simp⟩
 | some v=>
  rw [Option.isSome_some,cond_true,(hF begun).2 v hb]
  obtain ⟨p1,p2⟩:=put27 v.No (l:=[]) List.Pairwise.nil
  obtain ⟨q1,q2⟩:=step l _ p1
  refine ⟨q1,fun n=>?_⟩
  rw [q2,p2]
  constructor
  ·rintro ((e | e) | e)
   ·exact .inl ⟨v,rfl,e.symm⟩
   ·cases e
   ·exact .inr e
  ·rintro (⟨w,hw,e⟩ | e)
   ·rw [← Option.some.inj hw] at e;exact .inl (.inl e.symm)
   ·exact .inr e
end Go.Sg
