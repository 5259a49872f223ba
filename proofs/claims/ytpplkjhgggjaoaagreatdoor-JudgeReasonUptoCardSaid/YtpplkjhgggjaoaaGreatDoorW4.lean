import Derived.KernelRfl
import Derived.Test.YtpplkjhgggjaoaaGreatDoorW3
/- A part of the proof of JudgeReason. -/
set_option linter.unusedVariables false
set_option linter.unusedSimpArgs false
set_option maxRecDepth 100000
namespace Go.Sg
theorem wrap64 {z:Int} (h:-9223372036854775808≤z∧z≤9223372036854775807):IntKind.i64.wrap z=z:=by
 have:=jV h;injection this
theorem Expr.eta (x:Expr):Expr.mk x.Kind x.N x.No x.Name x.L=x:=by cases x;rfl
theorem Expr.ind {P:Expr→Prop} (h:∀ x,(∀ y∈x.L,P y)→P x) (x:Expr):P x:=by
 have key:∀ n (x:Expr),x.dep≤n→P x:=by
  intro n
  induction n with
  | zero=>intro x hx;have:=Expr.kB x;omega
  | succ n ih=>intro x hx;exact h x fun y hy=>ih y (by have:=Expr.iU hy;omega)
 exact key _ x (Nat.le_refl _)
theorem E7 (k:List gf):∀ l,aK.L3 k l=l++k
 | []=>rfl
 | y::l=>by simp [aK.L3,E7 k l]
theorem E8 (rec:Expr→Int→List gf) (d:Int):∀ l,aK.L1 rec d [] l=l.flatMap (fun y=>rec y (d+1))
 | []=>rfl
 | y::l=>by simp [aK.L1,E7,E8 rec d l]
theorem DY (rec:Expr→Int→List gf) (x:Expr) (d:Int):aK.F rec x d=⟨x,d⟩::x.L.flatMap (fun y=>rec y (d+1)):=by
 simp [aK.F,aK.K1,E8,Expr.eta]
theorem wp {α β : Type} {f g:α→List β}:∀ {l:List α},(∀ y∈l,f y=g y)→l.flatMap f=l.flatMap g
 | [],_=>rfl
 | y::l,h=>by
  rw [List.flatMap_cons,List.flatMap_cons,h y (List.mem_cons_self ..),wp fun z hz=>h z (List.mem_cons_of_mem _ hz)]
theorem E6 (m:Nat):∀ (x:Expr) (d:Int),x.dep≤m→aK.go m x d=bq x d:=by
 induction m using Nat.strongRecOn with
 | _ m ih=>
  intro x d hx
  unfold bq
  have hp:=Expr.kB x
  obtain ⟨m',rfl⟩:∃ m',m=m'+1:=⟨m - 1,by omega⟩
  obtain ⟨n,hn⟩:∃ n,x.dep=n+1:=⟨x.dep - 1,by omega⟩
  rw [hn]
  show aK.F (aK.go m') x d=aK.F (aK.go n) x d
  rw [DY,DY]
  congr 1
  refine wp fun y hy=>?_
  have:=Expr.iU hy
  rw [ih m' (by omega) y _ (by omega),ih n (by omega) y _ (by omega)]
theorem mb (x:Expr) (d:Int):bq x d=⟨x,d⟩::x.L.flatMap (fun y=>bq y (d+1)):=by
 have hp:=Expr.kB x
 obtain ⟨n,hn⟩:∃ n,x.dep=n+1:=⟨x.dep - 1,by omega⟩
 rw [← E6 x.dep x d (Nat.le_refl _),hn]
 show aK.F (aK.go n) x d=_
 rw [DY]
 congr 1
 exact wp fun y hy=>E6 n y _ (by have:=Expr.iU hy;omega)
theorem Dm (Q:Expr→Prop) (x:Expr):∀ d d',(∀ z∈bq x d,Q z.x)→∀ z∈bq x d',Q z.x:=by
 refine Expr.ind (P:=fun x=>∀ d d',(∀ z∈bq x d,Q z.x)→∀ z∈bq x d',Q z.x) ?_ x
 intro x ih d d' h z hz
 rw [mb] at h hz
 rcases List.mem_cons.1 hz with rfl | hz
 ·exact h ⟨x,d⟩ (List.mem_cons_self ..)
 ·obtain ⟨y,hy,hz⟩:=List.mem_flatMap.1 hz
  exact ih y hy (d+1) (d'+1) (fun z' hz'=>h z' (List.mem_cons_of_mem _ (List.mem_flatMap.2 ⟨y,hy,hz'⟩))) z hz
theorem od (Q:Expr→Prop) (x:Expr) (d:Int):(∀ z∈bq x d,Q z.x)↔Q x∧∀ y∈x.L,∀ z∈bq y d,Q z.x:=by
 constructor
 ·intro h
  rw [mb] at h
  exact ⟨h ⟨x,d⟩ (List.mem_cons_self ..),fun y hy=>Dm Q y (d+1) d fun z hz=>h z (List.mem_cons_of_mem _ (List.mem_flatMap.2 ⟨y,hy,hz⟩))⟩
 ·rintro ⟨h1,h2⟩ z hz
  rw [mb] at hz
  rcases List.mem_cons.1 hz with rfl | hz
  ·exact h1
  ·obtain ⟨y,hy,hz⟩:=List.mem_flatMap.1 hz
   exact Dm Q y d (d+1) (h2 y hy) z hz
def NZ (x:Except Int Unit):Prop:=∀ e,x=.error e→e≠0
theorem NZ.ok:NZ (.ok ()):=fun _ h=>by cases h
theorem NZ.must {c:Bool} {e:Int} (he:e≠0):NZ (eD c e):=fun e' h=>by
 cases c with
 | true=>simp [eD] at h
 | false=>simp [eD] at h;omega
theorem NZ.exi {x:Except Int Unit} {f:Unit→Except Int Unit} (hx:NZ x) (hf:NZ (f ())):NZ (Sg.exi x f):=by
 cases x with
 | ok u=>exact hf
 | error e=>exact fun e' h=>hx e' h
theorem DC {x:Except Int Unit} (h:NZ x):attR x=0↔x=.ok ():=by
 cases x with
 | ok u=>simp [attR]
 | error e=>simp only [attR,reduceCtorEq,iff_false];exact h e rfl
theorem oe {c:Bool} {e:Int} {f:Unit→Except Int Unit}:exi (eD c e) f=.ok ()↔c=true∧f ()=.ok ():=by
 cases c <;> simp [eD,exi]
theorem FP (p:Policy):∀ (l:List Rule) (g:List Expr),aB.L1 (aB.K1 p) l g=g++(l.map (·.Expr)++[p.Change])
 | [],g=>by simp [aB.L1,aB.K1]
 | y::l,g=>by simp [aB.L1,FP p l]
theorem lE (p:Policy):aB p=p.Rules.map (·.Expr)++[p.Change]:=by
 unfold aB;rw [FP];simp
theorem EN (k:Int→Except Int Unit) (hk:∀ a b,k a=k b):∀ (l:List gf) (g:Int),0≤g→g≤256→(cj.L3 k l g=.ok ()↔(g+l.length≤256∧∀ z∈l,z.depth≤16)∧k 0=.ok ())
 | [],g,h0,h1=>by simp only [cj.L3,hk g 0,List.length_nil,List.not_mem_nil];simp;omega
 | y::l,g,h0,h1=>by
  simp only [cj.L3,oe,Bool.and_eq_true,decide_eq_true_eq,wrap64 (z:=g+1) (by omega),List.length_cons,List.mem_cons]
  by_cases h:g+1≤256
  ·rw [EN k hk l (g+1) (by omega) h]
   constructor
   ·rintro ⟨⟨_,h3⟩,⟨h4,h5⟩,h6⟩
    refine ⟨⟨by omega,fun z hz=>?_⟩,h6⟩
    rcases hz with rfl | hz
    ·exact h3
    ·exact h5 z hz
   ·rintro ⟨⟨h4,h5⟩,h6⟩
    exact ⟨⟨h,h5 y (.inl rfl)⟩,⟨by omega,fun z hz=>h5 z (.inr hz)⟩,h6⟩
  ·constructor
   ·rintro ⟨⟨h3,_⟩,_⟩;exact absurd h3 h
   ·rintro ⟨⟨h4,_⟩,_⟩;omega
theorem EO:∀ (l:List Expr),cj.L1 (.ok ()) l=.ok ()↔∀ x∈l,(bq x 1).length≤256∧∀ z∈bq x 1,z.depth≤16
 | []=>by simp [cj.L1]
 | y::l=>by
  simp only [cj.L1]
  rw [EN _ (fun _ _=>rfl) _ 0 (by omega) (by omega),EO l]
  simp only [List.mem_cons,forall_eq_or_imp]
  constructor
  ·rintro ⟨⟨a,b⟩,c⟩;exact ⟨⟨by omega,b⟩,c⟩
  ·rintro ⟨⟨a,b⟩,c⟩;exact ⟨⟨by omega,b⟩,c⟩
theorem wO (p:Policy):cj p=.ok ()↔(p.Offices.length≤32∧p.Kinds.length≤16∧p.Rules.length≤16)∧∀ x∈aB p,(bq x 1).length≤256∧∀ z∈bq x 1,z.depth≤16:=by
 unfold cj cj.K1
 rw [oe,EO]
 simp only [Bool.and_eq_true,decide_eq_true_eq]
 constructor
 ·rintro ⟨⟨⟨a,b⟩,c⟩,d⟩;exact ⟨⟨by omega,by omega,by omega⟩,d⟩
 ·rintro ⟨⟨a,b,c⟩,d⟩;exact ⟨⟨⟨by omega,by omega⟩,by omega⟩,d⟩
theorem JA (p:Policy):NZ (cj p):=by
 have h3:∀ (k:Int→Except Int Unit),(∀ a,NZ (k a))→∀ l g,NZ (cj.L3 k l g):=by
  intro k hk l
  induction l with
  | nil=>exact fun g=>hk g
  | cons y l ih=>exact fun g=>NZ.exi (NZ.must (by omega)) (ih _)
 have h1:∀ l,NZ (cj.L1 (.ok ()) l):=by
  intro l
  induction l with
  | nil=>exact NZ.ok
  | cons y l ih=>exact h3 _ (fun _=>ih) _ _
 exact NZ.exi (NZ.must (by omega)) (h1 _)
theorem Fd (p:Policy) (k:Except Int Unit):∀ l,ck.L3 p k l=.ok ()↔(∀ z∈l,((!(df z.x))||cR p.Offices z.x.Name)=true)∧k=.ok ()
 | []=>by simp [ck.L3]
 | y::l=>by simp only [ck.L3,oe,Fd p k l,List.mem_cons,forall_eq_or_imp,and_assoc]
theorem Fe (p:Policy):∀ l,ck.L1 p (.ok ()) l=.ok ()↔∀ x∈l,∀ z∈bq x 1,((!(df z.x))||cR p.Offices z.x.Name)=true
 | []=>by simp [ck.L1]
 | y::l=>by simp only [ck.L1,Fd,Fe p l,List.mem_cons,forall_eq_or_imp]
theorem Bj (p:Policy):ck p=.ok ()↔(dC p.Name=true∧bA p.Offices dC=true∧bA p.Kinds dC=true)∧∀ x∈aB p,∀ z∈bq x 1,((!(df z.x))||cR p.Offices z.x.Name)=true:=by
 unfold ck ck.K1
 rw [oe,Fe]
 simp only [Bool.and_eq_true,and_assoc]
theorem Kb (p:Policy):NZ (ck p):=by
 have h3:∀ (k:Except Int Unit),NZ k→∀ l,NZ (ck.L3 p k l):=by
  intro k hk l
  induction l with
  | nil=>exact hk
  | cons y l ih=>exact NZ.exi (NZ.must (by omega)) ih
 have h1:∀ l,NZ (ck.L1 p (.ok ()) l):=by
  intro l
  induction l with
  | nil=>exact NZ.ok
  | cons y l ih=>exact h3 _ ih _
 exact NZ.exi (NZ.must (by omega)) (h1 _)
theorem HP (p:Policy) (i:Nat) (k:Except Int Unit):∀ l,bp.L4 p i k l=.ok ()↔(∀ z∈l,(aM z.x.Kind 1 4&&kindsP z.x.Kind z.x)=true∧(decide ((i:Int) < IntKind.i64.wrap (((aB p).length:Int) - 1))||(z.x.Kind != 4))=true)∧k=.ok ()
 | []=>by simp [bp.L4]
 | y::l=>by simp only [bp.L4,oe,HP p i k l,List.mem_cons,forall_eq_or_imp,and_assoc]
theorem Ac (p:Policy):∀ l i,bp.L2 p (.ok ()) l i=.ok ()↔∀ j x,l[j]? = some x→∀ z∈bq x 1,(aM z.x.Kind 1 4&&kindsP z.x.Kind z.x)=true∧(decide (((i+j:Nat):Int) < IntKind.i64.wrap (((aB p).length:Int) - 1))||(z.x.Kind != 4))=true
 | [],i=>by simp [bp.L2]
 | y::l,i=>by
  simp only [bp.L2]
  rw [HP,Ac p l (i+1)]
  constructor
  ·rintro ⟨h1,h2⟩ j x hj z hz
   cases j with
   | zero=>simp at hj;subst hj;exact h1 z hz
   | succ j=>have:=h2 j x (by simpa using hj) z hz;rw [show i+(j+1)=i+1+j from by omega];exact this
  ·intro h
   refine ⟨fun z hz=>h 0 y rfl z hz,fun j x hj z hz=>?_⟩
   have:=h (j+1) x (by simpa using hj) z hz
   rw [show i+(j+1)=i+1+j from by omega] at this;exact this
theorem xr (p:Policy) (k:Except Int Unit):∀ l i,bp.L1 p k l i=.ok ()↔(∀ j r,l[j]? = some r→((r.Kind.toList==(nthI p.Kinds (((i+j:Nat):Int))).toList)&&aM r.Think 0 1099511627775)=true)∧k=.ok ()
 | [],i=>by simp [bp.L1]
 | y::l,i=>by
  simp only [bp.L1]
  rw [oe,xr p k l (i+1)]
  constructor
  ·rintro ⟨h1,h2,h3⟩
   refine ⟨fun j r hj=>?_,h3⟩
   cases j with
   | zero=>simp at hj;subst hj;exact h1
   | succ j=>have:=h2 j r (by simpa using hj);rw [show i+(j+1)=i+1+j from by omega];exact this
  ·rintro ⟨h,h3⟩
   refine ⟨h 0 y rfl,fun j r hj=>?_,h3⟩
   have:=h (j+1) r (by simpa using hj)
   rw [show i+(j+1)=i+1+j from by omega] at this;exact this
theorem Lw (p:Policy):NZ (bp p):=by
 have h4:∀ i (k:Except Int Unit),NZ k→∀ l,NZ (bp.L4 p i k l):=by
  intro i k hk l
  induction l with
  | nil=>exact hk
  | cons y l ih=>exact NZ.exi (NZ.must (by omega)) (NZ.exi (NZ.must (by omega)) ih)
 have h2:∀ l i,NZ (bp.L2 p (.ok ()) l i):=by
  intro l
  induction l with
  | nil=>exact fun _=>NZ.ok
  | cons y l ih=>exact fun i=>h4 i _ (ih _) _
 have h1:∀ l i,NZ (bp.L1 p (bp.K1 p) l i):=by
  intro l
  induction l with
  | nil=>exact fun _=>h2 _ _
  | cons y l ih=>exact fun i=>NZ.exi (NZ.must (by omega)) (ih _)
 exact NZ.exi (NZ.must (by omega)) (h1 _ _)
theorem yQ (p:Policy):NZ (dp p):=
 NZ.exi (JA p) (NZ.exi (Kb p) (NZ.exi (Lw p) NZ.ok))
theorem wq {x:Except Int Unit} {f:Unit→Except Int Unit}:exi x f=.ok ()↔x=.ok ()∧f ()=.ok ():=by
 cases x with
 | ok u=>simp [exi]
 | error e=>simp [exi]
theorem qy (p:Policy):dp p=.ok ()↔cj p=.ok ()∧ck p=.ok ()∧bp p=.ok ():=by
 unfold dp
 rw [wq,wq,wq]
 simp
theorem E1 (p:Policy):(dT p).2=attR (dp p):=by
 have hL:∀ l i g,(dT.L1 p (dT.K1 p) l i g).2=0:=by
  intro l
  induction l with
  | nil=>exact fun _ _=>rfl
  | cons y l ih=>exact fun i g=>ih _ _
 unfold dT
 by_cases h:attR (dp p)=0
 ·simp [h,hL]
 ·rw [show (attR (dp p) != 0)=true from by simpa using h];rfl
theorem F2 (p:Policy) (k:Int):∀ l i,cV.L1 p k l i=0↔(∀ j r,l[j]? = some r→r.KindNo=((i+j:Nat):Int)∧bO p.Offices r.Expr=true)∧k=0
 | [],i=>by simp [cV.L1]
 | y::l,i=>by
  simp only [cV.L1,Bool.cond_eq_ite]
  split
  ·next h=>
   simp only [Bool.or_eq_true,bne_iff_ne,Bool.not_eq_true'] at h
   constructor
   ·intro h';omega
   ·rintro ⟨h1,_⟩
    have:=h1 0 y rfl
    simp only [Nat.add_zero] at this
    rcases h with h | h
    ·exact absurd this.1 h
    ·rw [this.2] at h;cases h
  ·next h=>
   simp only [Bool.or_eq_true,bne_iff_ne,Bool.not_eq_true',not_or,Decidable.not_not,Bool.not_eq_false] at h
   rw [F2 p k l (i+1)]
   constructor
   ·rintro ⟨h1,h2⟩
    refine ⟨fun j r hj=>?_,h2⟩
    cases j with
    | zero=>simp at hj;subst hj;exact h
    | succ j=>have:=h1 j r (by simpa using hj);rw [show i+(j+1)=i+1+j from by omega];exact this
   ·rintro ⟨h1,h2⟩
    refine ⟨fun j r hj=>?_,h2⟩
    have:=h1 (j+1) r (by simpa using hj)
    rw [show i+(j+1)=i+1+j from by omega] at this;exact this
theorem xJ (p:Policy):cV p=0↔dp p=.ok ()∧(∀ (j:Nat) r,p.Rules[j]? = some r→r.KindNo=(j:Int)∧bO p.Offices r.Expr=true)∧bO p.Offices p.Change=true:=by
 unfold cV
 rw [E1]
 by_cases h:attR (dp p)=0
 ·have h2:=(DC (yQ p)).1 h
  have hk:cV.K1 p=0↔bO p.Offices p.Change=true:=by
   unfold cV.K1
   cases bO p.Offices p.Change <;> simp
  rw [show (attR (dp p) != 0)=false from by simpa using h,cond_false,F2,hk]
  simp only [Nat.zero_add,h2,true_and]
 ·have h2:¬ dp p=.ok ():=fun e=>h ((DC (yQ p)).2 e)
  rw [show (attR (dp p) != 0)=true from by simpa using h,cond_true]
  simp [h,h2]
theorem KN {c x:Bool}:(bif c then false else x)=true↔c=false∧x=true:=by cases c <;> simp
theorem ov (off:List ByteArray):∀ l,bO.L1 off true l=true↔∀ z∈l,z.x.No=(bif df z.x then aP off z.x.Name else 0)
 | []=>by simp [bO.L1]
 | y::l=>by
  simp only [bO.L1,List.mem_cons,forall_eq_or_imp]
  cases df y.x with
  | true=>
   rw [cond_true,cond_true,KN,ov off l];simp
  | false=>
   rw [cond_false,cond_false,KN,ov off l];simp
theorem Fy (v:ByteArray):∀ (l:List ByteArray) (i:Nat),aP.L1 v (-1) l i=-1∨((i:Int)≤aP.L1 v (-1) l i∧aP.L1 v (-1) l i < ((i+l.length:Nat):Int))
 | [],i=>.inl rfl
 | y::l,i=>by
  simp only [aP.L1,Bool.cond_eq_ite,List.length_cons]
  split
  ·right;omega
  ·rcases Fy v l (i+1) with h | h
   ·exact .inl h
   ·right;omega
theorem Kf (l:List ByteArray) (v:ByteArray):aP l v < (l.length:Int):=by
 have:=Fy v l 0
 unfold aP aP.K1
 omega
theorem uW {p:Policy} (hc:cV p=0):p.Rules.length=p.Kinds.length∧p.Offices.length≤32∧(∀ x∈aB p,OkX (p.Offices.length:Int) x):=by
 obtain ⟨h1,h2,h3⟩:=(xJ p).1 hc
 obtain ⟨hs,hn,hf⟩:=(qy p).1 h1
 have hf':=hf
 unfold bp at hf
 rw [oe,xr] at hf
 simp only [Bool.and_eq_true,decide_eq_true_eq,beq_iff_eq] at hf
 obtain ⟨⟨⟨_,hlen⟩,hmode⟩,hrules,hK⟩:=hf
 unfold bp.K1 bp.K2 at hK
 rw [Ac] at hK
 obtain ⟨⟨ho,_,_⟩,_⟩:=(wO p).1 hs
 obtain ⟨_,hnm⟩:=(Bj p).1 hn
 refine ⟨by omega,ho,fun x hx=>?_⟩
 have hres:∀ z∈bq x 1,z.x.No=(bif df z.x then aP p.Offices z.x.Name else 0):=by
  have hr:bO p.Offices x=true:=by
   rw [lE] at hx
   rcases List.mem_append.1 hx with hx | hx
   ·obtain ⟨r,hr,rfl⟩:=List.mem_map.1 hx
    obtain ⟨j,hj⟩:=List.getElem?_of_mem hr
    exact (h2 j r hj).2
   ·rw [List.mem_singleton.1 hx];exact h3
  unfold bO bO.K1 at hr
  exact (ov _ _).1 hr
 obtain ⟨j,hj⟩:=List.getElem?_of_mem hx
 have hfm:=fun z hz=>(hK j x hj z hz).1
 have hnx:=hnm x hx
 clear hK hnm hj
 let Q:Expr→Prop:=fun x=>(1≤x.Kind∧x.Kind≤4)∧(x.Kind≤2→0≤x.No∧x.No < (p.Offices.length:Int))∧(x.Kind=4→x.L.length=2)
 have all:∀ z∈bq x 1,(fun x:Expr=>(1≤x.Kind∧x.Kind≤4)∧(x.Kind≤2→0≤x.No∧x.No < (p.Offices.length:Int))∧(x.Kind=4→x.L.length=2)) z.x:=by
  intro z hz
  have a:=hfm z hz
  have b:=hnx z hz
  have c:=hres z hz
  simp only [Bool.and_eq_true,aM,decide_eq_true_eq] at a
  refine ⟨a.1,fun hk=>?_,fun hk=>?_⟩
  ·have hnamed:df z.x=true:=by
    have:z.x.Kind=1∨z.x.Kind=2:=by omega
    rcases this with e | e <;> simp [df,e]
   simp only [hnamed,Bool.not_true,Bool.false_or,cond_true] at b c
   have hge:0≤aP p.Offices z.x.Name:=by
    have h9:=b
    simp only [cR,decide_eq_true_eq,ge_iff_le] at h9
    exact h9
   have:=Kf p.Offices z.x.Name
   omega
  ·have h9:=a.2
   rw [hk] at h9
   simp only [kindsP] at h9
   simp [iF] at h9
   omega
 clear hfm hnx hres hx
 revert all
 refine Expr.ind (P:=fun x=>(∀ z∈bq x 1,Q z.x)→OkX (p.Offices.length:Int) x) ?_ x
 intro x ih all
 rw [od Q] at all
 obtain ⟨⟨a,b,c⟩,d⟩:=all
 exact OkX.mk x a b c fun y hy=>ih y hy (d y hy)
theorem Cf {p:Policy} (hc:cV p=0):(1≤p.Mode∧p.Mode≤4)∧p.Rules.length≤16∧∀ r∈p.Rules,0≤r.Think∧r.Think≤1099511627775:=by
 obtain ⟨h1,_,_⟩:=(xJ p).1 hc
 obtain ⟨hs,_,hf⟩:=(qy p).1 h1
 unfold bp at hf
 rw [oe,xr] at hf
 simp only [Bool.and_eq_true,aM,decide_eq_true_eq] at hf
 obtain ⟨⟨⟨_,_⟩,hmode⟩,hrules,_⟩:=hf
 obtain ⟨⟨_,_,hr⟩,_⟩:=(wO p).1 hs
 refine ⟨hmode,hr,fun r hr=>?_⟩
 obtain ⟨j,hj⟩:=List.getElem?_of_mem hr
 exact (hrules j r hj).2
theorem BT {p:Policy} {r:Rule} (h:r∈p.Rules):r.Expr∈aB p:=by
 rw [lE];exact List.mem_append_left _ (List.mem_map_of_mem h)
theorem Dl:∀ (l:List Int) (g:Int),eE.L1 eE.K1 l g=true↔(∀ x∈l,g < x∧x < 64)∧l.Pairwise (· < ·)
 | [],g=>by simp [eE.L1,eE.K1]
 | y::l,g=>by
  simp only [eE.L1,Bool.cond_eq_ite,Bool.or_eq_true,decide_eq_true_eq]
  split
  ·next h=>
   constructor
   ·intro h';cases h'
   ·rintro ⟨h1,_⟩;have:=h1 y (List.mem_cons_self ..);omega
  ·next h=>
   rw [Dl l y,List.pairwise_cons]
   simp only [List.mem_cons,forall_eq_or_imp]
   constructor
   ·rintro ⟨h1,h2⟩
    exact ⟨⟨by omega,fun x hx=>by have:=h1 x hx;omega⟩,fun x hx=>(h1 x hx).1,h2⟩
   ·rintro ⟨⟨h1,h2⟩,h3,h4⟩
    exact ⟨fun x hx=>⟨h3 x hx,(h2 x hx).2⟩,h4⟩
theorem Iv (l:List Int):eE l=true↔(∀ x∈l,0≤x∧x < 64)∧l.Pairwise (· < ·):=by
 unfold eE
 rw [Dl]
 constructor
 ·rintro ⟨h1,h2⟩;exact ⟨fun x hx=>by have:=h1 x hx;omega,h2⟩
 ·rintro ⟨h1,h2⟩;exact ⟨fun x hx=>by have:=h1 x hx;omega,h2⟩
theorem Cy {l:List Int} (h:eE l=true):l.Pairwise (·≤·):=((Iv l).1 h).2.imp (fun h=>Int.le_of_lt h)
theorem Ir {hs:List (List Holder)} {n:Int} (h:er hs n=true):(hs.length:Int)=n:=by
 have h3:∀ (k:List Int→Bool) (l:List Holder) (g:List Int),er.L3 k l g=true→∃ g',k g'=true:=by
  intro k l
  induction l with
  | nil=>exact fun g h=>⟨g,h⟩
  | cons y l ih=>
   intro g h
   simp only [er.L3,Bool.cond_eq_ite] at h
   split at h
   ·cases h
   ·exact ih _ h
 have h1:∀ (k:Bool) (l:List (List Holder)),er.L1 k l=true→k=true:=by
  intro k l
  induction l with
  | nil=>exact fun h=>h
  | cons y l ih=>
   intro h
   obtain ⟨g',hg⟩:=h3 _ _ _ h
   simp only [Bool.cond_eq_ite] at hg
   split at hg
   ·cases hg
   ·exact ih hg
 have:=h1 _ _ h
 simpa [er.K1] using this
theorem zm:∀ (l:List Version) (g:Int),-1≤g→g≤1048576→(bF.L1 bF.K1 l g=0 ↔
  (∀ v∈l,(0≤v.At∧v.At≤1099511627775)∧(0≤v.Known∧v.Known≤1099511627775)∧v.No≤1048576∧cV v.Policy=0)∧(∀ v∈l,g < v.No)∧l.Pairwise (fun a b=>a.No < b.No))
 | [],g,_,_=>by simp [bF.L1,bF.K1]
 | y::l,g,h0,h1=>by
  simp only [bF.L1,wrap64 (z:=g+1) (by omega),aM]
  by_cases hy:((0≤y.At∧y.At≤1099511627775)∧(0≤y.Known∧y.Known≤1099511627775)∧y.No≤1048576∧cV y.Policy=0)∧g < y.No
  ·obtain ⟨⟨⟨a,a'⟩,⟨b,b'⟩,c,d⟩,e⟩:=hy
   have hc:(!(decide (g+1≤y.No)&&decide (y.No≤1048576))||!(decide (0≤y.At)&&decide (y.At≤1099511627775))||!(decide (0≤y.Known)&&decide (y.Known≤1099511627775))||cV y.Policy != 0)=false:=by
    simp [a,a',b,b',c,d];omega
   rw [hc,cond_false,zm l y.No (by omega) c,List.pairwise_cons]
   simp only [List.mem_cons,forall_eq_or_imp]
   constructor
   ·rintro ⟨h2,h3,h4⟩
    exact ⟨⟨⟨⟨a,a'⟩,⟨b,b'⟩,c,d⟩,h2⟩,⟨e,fun v hv=>by have:=h3 v hv;omega⟩,h3,h4⟩
   ·rintro ⟨⟨_,h2⟩,_,h3,h4⟩;exact ⟨h2,h3,h4⟩
  ·have hc:(!(decide (g+1≤y.No)&&decide (y.No≤1048576))||!(decide (0≤y.At)&&decide (y.At≤1099511627775))||!(decide (0≤y.Known)&&decide (y.Known≤1099511627775))||cV y.Policy != 0)=true:=by
    apply Classical.byContradiction
    intro hn
    apply hy
    simp only [Bool.not_eq_true,Bool.or_eq_false_iff,Bool.not_eq_false',Bool.and_eq_true,decide_eq_true_eq,bne_eq_false_iff_eq] at hn
    obtain ⟨⟨⟨a,b⟩,c⟩,d⟩:=hn
    exact ⟨⟨b,c,a.2,d⟩,by omega⟩
   rw [hc,cond_true]
   constructor
   ·intro h;omega
   ·rintro ⟨h2,h3,_⟩
    exact absurd ⟨h2 y (List.mem_cons_self ..),h3 y (List.mem_cons_self ..)⟩ hy
structure DI (l:List Version):Prop where
 len:l.length≤256
 each:∀ v∈l,(0≤v.At∧v.At≤1099511627775)∧(0≤v.Known∧v.Known≤1099511627775)∧(0≤v.No∧v.No≤1048576)∧cV v.Policy=0
 inc:l.Pairwise (fun a b=>a.No < b.No)
theorem oJ (l:List Version):bF l=0↔DI l:=by
 unfold bF
 by_cases hl:l.length≤256
 ·rw [show decide (256 < (l.length:Int))=false from decide_eq_false (by omega),cond_false,zm l (-1) (by omega) (by omega)]
  constructor
  ·rintro ⟨h1,h2,h3⟩;exact ⟨hl,fun v hv=>by have a:=h1 v hv;have b:=h2 v hv;exact ⟨a.1,a.2.1,⟨by omega,a.2.2.1⟩,a.2.2.2⟩,h3⟩
  ·rintro ⟨_,h1,h3⟩;exact ⟨fun v hv=>by have:=h1 v hv;exact ⟨this.1,this.2.1,by omega,this.2.2.2⟩,fun v hv=>by have:=h1 v hv;omega,h3⟩
 ·rw [show decide (256 < (l.length:Int))=true from decide_eq_true (by omega),cond_true]
  exact ⟨fun h=>by omega,fun h=>absurd h.len hl⟩
theorem DI.mode {l:List Version} (g:DI l) {v:Version} (hv:v∈l):1≤v.Policy.Mode∧v.Policy.Mode≤4:=(Cf (g.each v hv).2.2.2).1
theorem yi {κ α : Type} [DecidableEq κ] (k:κ) (v:α):∀ (m:List (κ×α)) (x:κ),mget? (mput m k v) x=if x=k then some v else mget? m x
 | [],x=>by simp [mput,mget?]
 | (k',v')::m,x=>by
  simp only [mput]
  by_cases e:k=k'
  ·subst e;by_cases e2:x=k <;> simp [mget?,e2]
  ·simp only [e,if_false,mget?,yi k v m x]
   by_cases e2:x=k'
   ·subst e2;simp [Ne.symm e]
   ·simp [e2]
theorem um {κ α : Type} [DecidableEq κ] {x:κ}:∀ {m:List (κ×α)},x∈m.map (·.1)→∃ v,mget? m x=some v∧(x,v)∈m
 | (k,v)::m,h=>by
  by_cases e:x=k
  ·subst e;exact ⟨v,by simp [mget?],by simp⟩
  ·simp only [List.map_cons,List.mem_cons,e,false_or] at h
   obtain ⟨u,h1,h2⟩:=um h
   exact ⟨u,by simp [mget?,e,h1],List.mem_cons_of_mem _ h2⟩
theorem yg {κ α : Type} [DecidableEq κ] {k:κ} {v:α} {q:κ×α}:∀ {m:List (κ×α)},q∈mput m k v→q=(k,v)∨q∈m
 | [],h=>by simp [mput] at h;exact .inl h
 | (k',v')::m,h=>by
  simp only [mput] at h
  split at h
  ·rcases List.mem_cons.1 h with h | h
   ·exact .inl h
   ·exact .inr (List.mem_cons_of_mem _ h)
  ·rcases List.mem_cons.1 h with h | h
   ·exact .inr (h ▸ List.mem_cons_self ..)
   ·rcases yg h with h | h
    ·exact .inl h
    ·exact .inr (List.mem_cons_of_mem _ h)
theorem Bw (g:List (Int×Version)):∀ l,bK.L2 g [] l=l.map fun y=>(y,mgetD g y (Version.mk 0 0 0 (Policy.mk (⟨#[]⟩:ByteArray) [] [] [] (Expr.mk 0 0 0 (⟨#[]⟩:ByteArray) []) 0)))
 | []=>rfl
 | y::l=>by simp [bK.L2,Bw g l]
def inForceM (known eK:Int):List Version→Int→List (Int×Version)→List (Int×Version)
 | [],_,m=>m
 | y::l,b,m=>bif decide (known < y.Known) then inForceM known eK l b m else bif decide (y.At≤eK) then (bif decide (y.At < b) then inForceM known eK l b m else inForceM known eK l y.At (mput m eK y)) else inForceM known eK l b (mput m y.At y)
theorem Bx (known eK:Int) (k:Int→List (Int×Version)→List (Int×Version)) (hk:∀ a b m,k a m=k b m):∀ l b m,bK.L1 known eK k l b m=k 0 (inForceM known eK l b m)
 | [],b,m=>hk _ _ _
 | y::l,b,m=>by
  simp only [bK.L1,inForceM,Bx known eK k hk l]
  cases decide (known < y.Known) <;> cases decide (y.At≤eK) <;> cases decide (y.At < b) <;> rfl
theorem wm (l:List Version) (eK known:Int):ft l eK known=(sortI ((inForceM known eK l (-1) []).map Prod.fst)).map fun y=>(y,mgetD (inForceM known eK l (-1) []) y (Version.mk 0 0 0 (Policy.mk (⟨#[]⟩:ByteArray) [] [] [] (Expr.mk 0 0 0 (⟨#[]⟩:ByteArray) []) 0))):=by
 unfold ft bK
 rw [Bx _ _ _ (fun _ _ _=>rfl)]
 exact Bw _ _
theorem ny (known eK:Int) (P:Int×Version→Prop):∀ (l:List Version) b m,(∀ y∈l,y.At≤eK→P (eK,y))→(∀ y∈l,eK < y.At→P (y.At,y))→(∀ q∈m,P q)→∀ q∈inForceM known eK l b m,P q
 | [],_,_,_,_,hm=>hm
 | y::l,b,m,h1,h2,hm=>by
  have h1':=fun z hz=>h1 z (List.mem_cons_of_mem _ hz)
  have h2':=fun z hz=>h2 z (List.mem_cons_of_mem _ hz)
  simp only [inForceM,Bool.cond_eq_ite,decide_eq_true_eq]
  split
  ·exact ny known eK P l b m h1' h2' hm
  ·split
   ·next ha=>
    split
    ·exact ny known eK P l b m h1' h2' hm
    ·refine ny known eK P l _ _ h1' h2' (fun q hq=>?_)
     rcases yg hq with rfl | hq
     ·exact h1 y (List.mem_cons_self ..) ha
     ·exact hm q hq
   ·next ha=>
    refine ny known eK P l _ _ h1' h2' (fun q hq=>?_)
    rcases yg hq with rfl | hq
    ·exact h2 y (List.mem_cons_self ..) (by omega)
    ·exact hm q hq
theorem zc {l:List Version} {eK known:Int} (P:Int×Version→Prop) (h1:∀ y∈l,y.At≤eK→P (eK,y)) (h2:∀ y∈l,eK < y.At→P (y.At,y)):∀ q∈ft l eK known,P q:=by
 intro q hq
 rw [wm] at hq
 obtain ⟨y,hy,rfl⟩:=List.mem_map.1 hq
 have hy':=(j3 _).mem_iff.1 hy
 obtain ⟨v,e,hv⟩:=um hy'
 have:mgetD (inForceM known eK l (-1) []) y (Version.mk 0 0 0 (Policy.mk (⟨#[]⟩:ByteArray) [] [] [] (Expr.mk 0 0 0 (⟨#[]⟩:ByteArray) []) 0))=v:=by simp [mgetD,e]
 simp only [this]
 exact ny known eK P l (-1) [] h1 h2 (fun q hq=>(List.not_mem_nil hq).elim) _ hv
theorem uu {l:List Version} {eK known:Int}:∀ q∈ft l eK known,q.2∈l:=
 zc (fun q=>q.2∈l) (fun y hy _=>hy) (fun y hy _=>hy)
theorem pk (known eK:Int):∀ (l:List Version) b m,(inForceM known eK l b m).length≤m.length+l.length
 | [],_,_=>Nat.le_refl _
 | y::l,b,m=>by
  have a1:=pk known eK l b m
  have a2:=pk known eK l y.At (mput m eK y)
  have a3:=pk known eK l b (mput m y.At y)
  have b2:=ly m eK y
  have b3:=ly m y.At y
  simp only [inForceM,Bool.cond_eq_ite,List.length_cons]
  split
  ·omega
  ·split
   ·split <;> omega
   ·omega
theorem zb (l:List Version) (eK known:Int):(ft l eK known).length≤l.length:=by
 rw [wm,List.length_map,ir,List.length_map]
 have:=pk known eK l (-1) []
 simpa using this
theorem wR:∀ {a b:List OSeat},a.Pairwise (fun x y=>x.person < y.person)→b.Pairwise (fun x y=>x.person < y.person)→a.Perm b→a=b
 | [],b,_,_,p=>(List.Perm.nil_eq p)
 | x::a,[],_,_,p=>absurd p.length_eq (by simp)
 | x::a,y::b,ha,hb,p=>by
  have hx:x=y:=by
   have h1:x∈y::b:=p.mem_iff.1 (List.mem_cons_self ..)
   have h2:y∈x::a:=p.mem_iff.2 (List.mem_cons_self ..)
   rw [List.pairwise_cons] at ha hb
   rcases List.mem_cons.1 h1 with e | h1
   ·exact e
   ·rcases List.mem_cons.1 h2 with e | h2
    ·exact e.symm
    ·have:=ha.1 y h2;have:=hb.1 x h1;omega
  subst hx
  rw [List.pairwise_cons] at ha hb
  rw [wR ha.2 hb.2 (List.Perm.cons_inv p)]
theorem wS {office:Int} {l:List OSeat} (hn:l.Nodup) (hs:l.Pairwise (fun x y=>x.person≤y.person)):(l.filter (fun y=>y.office==office)).Pairwise (fun x y=>x.person < y.person):=by
 induction l with
 | nil=>exact List.Pairwise.nil
 | cons x l ih=>
  rw [List.nodup_cons] at hn
  rw [List.pairwise_cons] at hs
  rw [List.filter_cons]
  split
  ·next h=>
   rw [List.pairwise_cons]
   refine ⟨fun y hy=>?_,ih hn.2 hs.2⟩
   obtain ⟨hy1,hy2⟩:=List.mem_filter.1 hy
   have h1:=hs.1 y hy1
   rcases Int.lt_or_eq_of_le h1 with h2 | h2
   ·exact h2
   ·exfalso
    have:x=y:=by
     cases x;cases y
     simp at h hy2 h2
     simp [h,hy2,h2]
    exact hn.1 (this ▸ hy1)
  ·exact ih hn.2 hs.2
theorem sG (m:List (OSeat×Appoint)) (office:Int):∀ l,bZ.L1 m office [] l=(l.filter fun y=>y.office==office).filterMap fun y=>bif (mgetD m y (Appoint.mk 0 0 0 0 0 0 false)).Gone then none else some (Holder.mk (mgetD m y (Appoint.mk 0 0 0 0 0 0 false)).Person (mgetD m y (Appoint.mk 0 0 0 0 0 0 false)).Weight)
 | []=>rfl
 | y::l=>by
  simp only [bZ.L1,sG m office l,List.filter_cons]
  cases h1:y.office==office <;> cases h2:(mgetD m y (Appoint.mk 0 0 0 0 0 0 false)).Gone <;> simp [h2]
theorem CG {m:List (OSeat×Appoint)} {office:Int} {ys:List OSeat} (hn:(m.map (·.1)).Nodup) (hp:ys.Perm (m.map Prod.fst)) (hs:ys.Pairwise (fun x y=>x.person≤y.person)):
  bZ m office=[]++((bZ.L1 m office bZ.K1) ys):=by
 unfold bZ bZ.K1
 rw [List.nil_append,sG,sG]
 have h1:(seatS (m.map Prod.fst)).Nodup:=(ss _).nodup_iff.2 hn
 have h2:ys.Nodup:=hp.nodup_iff.2 hn
 rw [wR (wS h1 (wT _)) (wS h2 hs) (((ss _).trans hp.symm).filter _)]
theorem uq (key:Appoint→OSeat×Bool) (later:Appoint→Appoint→Bool):∀ (l:List Appoint) m,(dg.L1 key later dg.K1 l m).length≤m.length+l.length
 | [],m=>by simp [dg.L1,dg.K1]
 | y::l,m=>by
  have a:=uq key later l m
  have b:=uq key later l (mput m (key y).1 y)
  have c:=ly m (key y).1 y
  simp only [dg.L1,Bool.cond_eq_ite,List.length_cons]
  split <;> omega
theorem sn (l:List Appoint) (a b:Int):(dk l a b).length≤l.length:=by
 have:=uq (fun dB=>ia dB a b) iT l []
 simpa [dk,dg] using this
theorem FZ (l:List Holder):fD l=l:=by
 have:∀ (l g:List Holder),cf.L1 cf.K1 l g=g++l:=by
  intro l
  induction l with
  | nil=>intro g;simp [cf.L1,cf.K1]
  | cons y l ih=>intro g;simp [cf.L1,ih]
 simp [fD,cf,this]
theorem ze (m:List (OSeat×Appoint)) (office:Int):(iD m office).length≤m.length:=by
 unfold iD bZ bZ.K1
 rw [sG]
 have h1:=List.length_filterMap_le (fun y=>bif (mgetD m y (Appoint.mk 0 0 0 0 0 0 false)).Gone then none else some (Holder.mk (mgetD m y (Appoint.mk 0 0 0 0 0 0 false)).Person (mgetD m y (Appoint.mk 0 0 0 0 0 0 false)).Weight)) ((seatS (m.map Prod.fst)).filter fun y=>y.office==office)
 have h2:=List.length_filter_le (fun y:OSeat=>y.office==office) (seatS (m.map Prod.fst))
 have h3:=(ss (m.map Prod.fst)).length_eq
 rw [List.length_map] at h3
 omega
theorem Gc (l:List Appoint) (office a b:Int):(eh l office a b).1.length≤l.length:=by
 unfold eh
 rw [FZ]
 have h1:=ze (dk l a b) office
 have h2:=sn l a b
 cases (cZ l != 0) <;> cases ((!(eM office))||(!(di a))||(!(di b))) <;> simp <;> omega
theorem me (r:Register):eB r=0↔cZ r.Appoints=0∧dq r.Deputies=0∧cN r.Interests=0∧cx r.Budgets=0∧bF r.Versions=0∧aX r.Docs=0∧bU r.Approvals=0:=by
 have e:eB r=(bif cZ r.Appoints != 0 then 300 else bif dq r.Deputies != 0 then 300 else bif cN r.Interests != 0 then 300 else bif cx r.Budgets != 0 then 300 else bif bF r.Versions != 0 then 300 else bif aX r.Docs != 0 then 300 else bif bU r.Approvals != 0 then 300 else 0):=rfl
 rw [e]
 have key:∀ (a x:Int),(bif a != 0 then 300 else x)=0↔a=0∧x=0:=by
  intro a x
  by_cases h:a=0
  ·simp [h]
  ·have:(a != 0)=true:=by simpa using h
   rw [this];simp [h]
 simp only [key,and_true]
theorem HB (limit:Int) (k:Int→Bool):∀ (l:List Int) (g:Int),dy.L1 limit k l g=true↔((∀ x∈l,g < x∧x < limit)∧l.Pairwise (· < ·))∧∃ g',(l=[]∧g'=g∨l.getLast? = some g')∧k g'=true
 | [],g=>by simp [dy.L1]
 | y::l,g=>by
  simp only [dy.L1,Bool.cond_eq_ite,Bool.or_eq_true,decide_eq_true_eq]
  split
  ·next h=>
   constructor
   ·intro h';cases h'
   ·rintro ⟨⟨h1,_⟩,_⟩;have:=h1 y (List.mem_cons_self ..);omega
  ·next h=>
   rw [HB limit k l y,List.pairwise_cons]
   simp only [List.mem_cons,forall_eq_or_imp]
   constructor
   ·rintro ⟨⟨h1,h2⟩,g',h3,h4⟩
    refine ⟨⟨⟨by omega,fun x hx=>by have:=h1 x hx;omega⟩,fun x hx=>(h1 x hx).1,h2⟩,g',?_,h4⟩
    rcases h3 with ⟨rfl,rfl⟩ | h3
    ·simp
    ·right;cases l with
     | nil=>simp at h3
     | cons z l=>simpa using h3
   ·rintro ⟨⟨⟨h1,h2⟩,h3,h4⟩,g',h5,h6⟩
    refine ⟨⟨fun x hx=>⟨h3 x hx,(h2 x hx).2⟩,h4⟩,g',?_,h6⟩
    rcases h5 with ⟨h5,_⟩ | h5
    ·cases h5
    ·cases l with
     | nil=>left;simp at h5;exact ⟨rfl,h5.symm⟩
     | cons z l=>right;simpa using h5
theorem zZ (l:List Int) (limit:Int):dy l limit=true↔((∀ x∈l,0≤x∧x < limit)∧l.Pairwise (· < ·))∧l.length≤16:=by
 unfold dy
 rw [HB]
 constructor
 ·rintro ⟨⟨h1,h2⟩,g',_,h3⟩
  refine ⟨⟨fun x hx=>by have:=h1 x hx;omega,h2⟩,?_⟩
  simp only [dy.K1,decide_eq_true_eq] at h3
  omega
 ·rintro ⟨⟨h1,h2⟩,h3⟩
  refine ⟨⟨fun x hx=>by have:=h1 x hx;omega,h2⟩,?_⟩
  cases l with
  | nil=>exact ⟨_,.inl ⟨rfl,rfl⟩,by simp [dy.K1]⟩
  | cons y l=>
   refine ⟨(y::l).getLast (by simp),.inr (List.getLast?_eq_some_getLast _),?_⟩
   simp only [dy.K1,decide_eq_true_eq]
   omega
structure Ib (d:Document):Prop where
 no:0≤d.No∧d.No < 4096
 at_:0≤d.At∧d.At < 1099511627776
 kind:0≤d.Kind∧d.Kind < 16
 value:0≤d.Value∧d.Value≤1099511627776
 eK:0≤d.From∧d.From < d.Until
 M2:d.Until≤1099511627776
 parties:((∀ x∈d.Parties,0≤x∧x < 1048577)∧d.Parties.Pairwise (· < ·))∧d.Parties.length≤16
 revokes:((∀ x∈d.Revokes,0≤x∧x < d.No)∧d.Revokes.Pairwise (· < ·))∧d.Revokes.length≤16
 needs:((∀ x∈d.Needs,0≤x∧x < d.No)∧d.Needs.Pairwise (· < ·))∧d.Needs.length≤16
theorem EZ (d:Document):gm d=true↔Ib d:=by
 unfold gm fp
 simp only [Bool.and_eq_true,decide_eq_true_eq,zZ]
 constructor
 ·rintro ⟨⟨⟨⟨⟨⟨⟨⟨⟨⟨⟨⟨a,b⟩,c,d⟩,e⟩,f⟩,g⟩,h⟩,i⟩,j⟩,k⟩,l⟩,m⟩,n⟩
  exact ⟨⟨a,b⟩,⟨c,d⟩,⟨e,f⟩,⟨g,h⟩,⟨i,j⟩,k,l,m,n⟩
 ·rintro ⟨⟨a,b⟩,⟨c,d⟩,⟨e,f⟩,⟨g,h⟩,⟨i,j⟩,k,l,m,n⟩
  exact ⟨⟨⟨⟨⟨⟨⟨⟨⟨⟨⟨⟨a,b⟩,c,d⟩,e⟩,f⟩,g⟩,h⟩,i⟩,j⟩,k⟩,l⟩,m⟩,n⟩
theorem BX (l0:List Document):∀ (l:List Document) (i:Nat),aX.L1 l0 0 l i=0→∀ d∈l,gm d=true
 | [],_,_,_,hd=>(List.not_mem_nil hd).elim
 | y::l,i,h,d,hd=>by
  simp only [aX.L1,Bool.cond_eq_ite] at h
  split at h
  ·omega
  ·next hc=>
   simp only [Bool.or_eq_true,not_or,Bool.not_eq_true',Bool.not_eq_false] at hc
   rcases List.mem_cons.1 hd with rfl | hd
   ·exact hc.1.1
   ·exact BX l0 l (i+1) h d hd
theorem DA {l:List Document} (h:aX l=0):∀ d∈l,Ib d:=by
 unfold aX aX.K1 at h
 rw [Bool.cond_eq_ite] at h
 split at h
 ·omega
 ·exact fun d hd=>(EZ d).1 (BX l l 0 h d hd)
theorem Bz (f:Document→Bool):∀ (l:List Document) (i:Nat),(ad.L1 f ad.K1 l i=-1∧∀ x∈l,f x=false) ∨
  ∃ a y b,l=a++y::b∧ad.L1 f ad.K1 l i=((i+a.length:Nat):Int)∧f y=true∧∀ x∈a,f x=false
 | [],i=>.inl ⟨rfl,fun _ h=>(List.not_mem_nil h).elim⟩
 | y::l,i=>by
  simp only [ad.L1]
  cases hy:f y with
  | true=>exact .inr ⟨[],y,l,rfl,by simp,hy,fun _ h=>(List.not_mem_nil h).elim⟩
  | false=>
   rcases Bz f l (i+1) with ⟨h1,h2⟩ | ⟨a,z,b,rfl,h2,h3,h4⟩
   ·exact .inl ⟨h1,fun x hx=>by rcases List.mem_cons.1 hx with rfl | hx;exact hy;exact h2 x hx⟩
   ·refine .inr ⟨y::a,z,b,rfl,?_,h3,fun x hx=>by rcases List.mem_cons.1 hx with rfl | hx;exact hy;exact h4 x hx⟩
    rw [cond_false,h2];simp only [List.length_cons];congr 1;omega
theorem GC (mode:Int) (l:List Version) (old:Bool):(judgesP mode l old).length≤l.length:=by
 unfold judgesP ip gT io
 cases mode==1 <;> cases mode==2 <;> cases old <;> simp <;> omega
theorem yE (k:List Int→List Int×Int×Int):∀ (l:List Version) (g:List Int),bE.L2 k l g=k (g++l.map (·.No))
 | [],g=>by simp [bE.L2]
 | y::l,g=>by simp [bE.L2,yE k l]
theorem DH (begun at_:Int) (P:List Int×Int×Int→Prop) (n:Nat) (k:Bool→List Version→List Int×Int×Int) (hk:∀ b g,g.length≤n→P (k b g)):∀ (l:List (Int×Version)) b g,g.length+l.length≤n→P (bE.L1 begun at_ k l b g)
 | [],b,g,h=>by simpa [bE.L1] using hk b g (by simpa using h)
 | y::l,b,g,h=>by
  simp only [bE.L1]
  simp only [List.length_cons] at h
  cases decide (at_ < y.1)
  ·exact DH begun at_ P n k hk l _ _ (by simp;omega)
  ·exact hk _ _ (by omega)
theorem GS (l:List Version) (begun at_ known:Int):(bE l begun at_ known).1.length≤l.length:=by
 unfold bE
 cases (bF l != 0)
 ·cases (((!(gj begun))||(!(gj at_)))||(!(gj known)))||decide (at_ < begun)
  ·simp only [cond_false]
   refine DH begun at_ (fun r=>r.1.length≤l.length) l.length _ ?_ _ _ _ (by have:=zb l begun known;simpa using this)
   intro b g hg
   unfold bE.K1
   cases ((g.length:Int)==0)
   ·simp only [cond_false,yE,bE.K2,List.nil_append,ir,List.length_map]
    exact Nat.le_trans (GC _ _ _) hg
   ·simp
  ·simp
 ·simp
theorem lg:smR (Register.mk [] [] [] [] [] [] []):=by simp [smR,smV]
theorem ru {P:Program} {f:FuncId} {args:List Value} {h:HF} {v v':Value} (t:Ret P f args h v) (e:v=v'):Ret P f args h v':=e ▸ t
structure Nd (r:Register) (doc:Int) (who l:List Int):Prop where
 times:∀ x∈l,0≤x∧x < 1099511627776
 check:iW r=0
 doc0:0≤aQ r doc
 people:mv who=true
theorem Hy (no:Int):∀ (l:List Document) (i:Nat),0≤aQ.L1 no aQ.K1 l i→∃ (j:Nat) (d:Document),l[j]? = some d∧d.No=no∧aQ.L1 no aQ.K1 l i=((i+j:Nat):Int)
 | [],i,h=>by simp [aQ.L1,aQ.K1] at h
 | y::l,i,h=>by
  simp only [aQ.L1,Bool.cond_eq_ite,beq_iff_eq] at h ⊢
  split
  ·next e=>exact ⟨0,y,rfl,e,rfl⟩
  ·next e=>
   rw [if_neg e] at h
   obtain ⟨j,d,h1,h2,h3⟩:=Hy no l (i+1) h
   exact ⟨j+1,d,by simpa using h1,h2,by rw [h3];congr 1;omega⟩
theorem Hx {r:Register} {no:Int} (h:0≤aQ r no):aQ r no < (r.Docs.length:Int)∧nthI r.Docs (aQ r no)∈r.Docs∧(nthI r.Docs (aQ r no)).No=no:=by
 obtain ⟨j,d,h1,h2,h3⟩:=Hy no r.Docs 0 h
 rw [Nat.zero_add] at h3
 have hl:=(List.getElem?_eq_some_iff.1 h1).1
 have e:aQ r no=(j:Int):=h3
 have hb:0≤aQ r no∧aQ r no < (r.Docs.length:Int):=by omega
 have hg:=dU hb
 rw [show (aQ r no).toNat=j from by omega,h1] at hg
 have hd:=Option.some.inj hg
 exact ⟨hb.2,mL hb,by rw [← hd];exact h2⟩
theorem F1 {r:Register} (h:iW r=0):gZ r.Appoints=0∧gH r.Deputies=0∧gE r.Interests=0∧gG r.Budgets=0∧dE r.Versions=0∧fm r.Docs=0∧gF r.Approvals=0:=by
 simp only [iW,Bool.cond_eq_ite,Bool.or_eq_true,bne_iff_ne] at h
 split at h
 ·simp at h
 ·next h1=>
  split at h
  ·simp at h
  ·next h2=>
   simp only [not_or,Classical.not_not] at h1 h2
   exact ⟨h1.1.1.1,h1.1.1.2,h1.1.2,h1.2,h2.1.1,h2.1.2,h2.2⟩
theorem yy {α : Type} (g:α→Int):∀ (l:List α) (m:List (Int×Bool)) (x:Int),x∈(l.foldl (fun m y=>mput m (g y) true) m).map (·.1)↔x∈m.map (·.1)∨∃ y∈l,x=g y
 | [],m,x=>by simp
 | y::l,m,x=>by
  rw [List.foldl_cons,yy g l,yh]
  simp only [List.mem_cons,exists_eq_or_imp]
  constructor
  ·rintro ((h | h) | h)
   ·exact .inr (.inl h)
   ·exact .inl h
   ·exact .inr (.inr h)
  ·rintro (h | h | h)
   ·exact .inl (.inr h)
   ·exact .inl (.inl h)
   ·exact .inr h
theorem BP {α : Type} (g:α→Int):∀ (l:List α) (m:List (Int×Bool)),(m.map (·.1)).Nodup→((l.foldl (fun m y=>mput m (g y) true) m).map (·.1)).Nodup
 | [],m,h=>h
 | y::l,m,h=>BP g l _ (mX _ _ h)
theorem xS {l:List Int} (h:l.Pairwise (·≤·)) (hn:l.Nodup):l.Pairwise (· < ·):=by
 induction l with
 | nil=>exact List.Pairwise.nil
 | cons x l ih=>
  rw [List.pairwise_cons] at h ⊢
  rw [List.nodup_cons] at hn
  exact ⟨fun y hy=>by have:=h.1 y hy;have:x≠y:=fun e=>hn.1 (e ▸ hy);omega,ih h.2 hn.2⟩
section chk
variable {α : Type} [Inhabited α]
def refChk (R:α→Bool) (no:α→Int) (c:Int) (L:List α):List α→Nat→Int
 | [],_=>0
 | y::l,i=>bif (!(R y))||(decide (0 < (i:Int))&&decide (no y≤no (nthI L ((i:Int) - 1)))) then c else refChk R no c L l (i+1)
def prgChk (R:α→Bool) (no:α→Int) (c:Int):List α→Int→Int
 | [],_=>0
 | y::l,g=>bif (!(R y))||decide (no y≤g) then c else prgChk R no c l (no y)
theorem F0 (R:α→Bool) (no:α→Int) (c:Int) (L:List α):∀ (l pre:List α) (x:α),L=(pre++[x])++l→refChk R no c L l (pre.length+1)=prgChk R no c l (no x)
 | [],_,_,_=>rfl
 | y::l,pre,x,h=>by
  have hx:nthI L (((pre.length+1:Nat):Int) - 1)=x:=by
   have hb:0≤(((pre.length+1:Nat):Int) - 1)∧(((pre.length+1:Nat):Int) - 1) < (L.length:Int):=by rw [h];simp;omega
   have hg:=dU hb
   rw [show ((((pre.length+1:Nat):Int) - 1)).toNat=pre.length from by omega,h] at hg
   rw [h];simpa using hg.symm
  have hd:decide (0 < ((pre.length+1:Nat):Int))=true:=by rw [decide_eq_true_eq];omega
  have ih:=F0 R no c L l (pre++[x]) y (by rw [h];simp)
  rw [List.length_append,List.length_cons,List.length_nil,Nat.zero_add] at ih
  simp only [refChk,prgChk,hx,hd,Bool.true_and,ih]
theorem Ce (R:α→Bool) (no:α→Int) (c:Int) (hR:∀ y,R y=true→0≤no y) (l:List α):refChk R no c l l 0=prgChk R no c l (-1):=by
 cases l with
 | nil=>rfl
 | cons y l=>
  have ih:=F0 R no c (y::l) l [] y rfl
  simp only [List.length_nil,Nat.zero_add] at ih
  simp only [refChk,prgChk,Nat.zero_add,ih]
  cases hr:R y with
  | false=>rfl
  | true=>
   have:decide (no y≤-1)=false:=by have:=hR y hr;simp;omega
   rw [this];rfl
end chk
theorem yV (l:List Appoint):cZ l=gZ l:=by
 have hR:∀ x,lD x=i8 x:=fun x=>by
  rw [Bool.eq_iff_iff]
  simp only [lD,i8,Bool.cond_eq_ite]
  cases x.Gone <;> simp only [if_true,if_false,Bool.false_eq_true,Bool.and_eq_true,Bool.or_eq_true,Bool.not_eq_true',decide_eq_true_eq,decide_eq_false_iff_not,beq_iff_eq,dQ,di,eM,fy,ma,my,mw,Bool.and_eq_false_iff]
   <;> (split <;> simp only [Bool.false_eq_true,iff_false,decide_eq_true_eq,Bool.and_eq_true,beq_iff_eq] <;> omega)
 have h1:∀ (L l:List Appoint) i,gZ.L1 L gZ.K1 l i=refChk i8 (·.No) 150 L l i:=by
  intro L l
  induction l with
  | nil=>intro i;rfl
  | cons y l ih=>intro i;simp only [gZ.L1,refChk,ih]
 have h2:∀ (l:List Appoint) g,cZ.L1 cZ.K1 l g=prgChk i8 (·.No) 150 l g:=by
  intro l
  induction l with
  | nil=>intro g;rfl
  | cons y l ih=>intro g;simp only [cZ.L1,prgChk,ih,hR]
 unfold cZ gZ
 rw [h1,h2,Ce]
 intro y hy
 simp only [i8,Bool.cond_eq_ite] at hy
 split at hy
 ·cases hy
 ·next h=>simp only [Bool.or_eq_true,not_or,decide_eq_true_eq] at h;omega
theorem xE (l:List Deputy):dq l=gH l:=by
 have hR:∀ x,kV x=i7 x:=fun x=>by
  rw [Bool.eq_iff_iff]
  simp only [kV,i7,Bool.cond_eq_ite,cQ,fV,fB,gI,lZ,ky]
  generalize (!(decide (0≤x.No)&&decide (x.No≤1048576))||!(decide (0≤x.At)&&decide (x.At≤1099511627775))||!(decide (0≤x.Known)&&decide (x.Known≤1099511627775))||!(decide (0≤x.From)&&decide (x.From≤63))||!(decide (0≤x.To)&&decide (x.To≤63))||x.From==x.To)=A
  cases A <;> simp
 have h1:∀ (L l:List Deputy) i,gH.L1 L gH.K1 l i=refChk i7 (·.No) 160 L l i:=by
  intro L l
  induction l with
  | nil=>intro i;rfl
  | cons y l ih=>intro i;simp only [gH.L1,refChk,ih]
 have h2:∀ (l:List Deputy) g,dq.L1 dq.K1 l g=prgChk i7 (·.No) 160 l g:=by
  intro l
  induction l with
  | nil=>intro g;rfl
  | cons y l ih=>intro g;simp only [dq.L1,prgChk,ih,hR]
 unfold dq gH
 rw [h1,h2,Ce]
 intro y hy
 simp only [i7,Bool.cond_eq_ite] at hy
 split at hy
 ·cases hy
 ·next h=>simp only [Bool.or_eq_true,not_or,decide_eq_true_eq,gI,Bool.not_eq_true',Bool.and_eq_false_iff,decide_eq_false_iff_not] at h;omega
theorem vG (l:List Interest):cN l=gE l:=by
 have hR:∀ x,kp x=iX x:=fun x=>by
  rw [Bool.eq_iff_iff]
  simp only [kp,iX,Bool.cond_eq_ite,bI,lW,kX,mu]
  cases x.Of <;> simp only [if_true,if_false,Bool.false_eq_true,Bool.and_eq_true,Bool.or_eq_true,Bool.not_eq_true',decide_eq_true_eq,decide_eq_false_iff_not,bne_iff_ne,Bool.and_eq_false_iff]
   <;> (split <;> simp only [Bool.false_eq_true,iff_false,decide_eq_true_eq,Bool.and_eq_true,bne_iff_ne] <;> omega)
 have h1:∀ (L l:List Interest) i,gE.L1 L gE.K1 l i=refChk iX (·.No) 290 L l i:=by
  intro L l
  induction l with
  | nil=>intro i;rfl
  | cons y l ih=>intro i;simp only [gE.L1,refChk,ih]
 have h2:∀ (l:List Interest) g,cN.L1 cN.K1 l g=prgChk iX (·.No) 290 l g:=by
  intro l
  induction l with
  | nil=>intro g;rfl
  | cons y l ih=>intro g;simp only [cN.L1,prgChk,ih,hR]
 unfold cN gE
 rw [h1,h2,Ce]
 intro y hy
 simp only [iX,Bool.cond_eq_ite] at hy
 split at hy
 ·cases hy
 ·next h=>simp only [Bool.or_eq_true,not_or,decide_eq_true_eq] at h;omega
theorem zd (f:Int→Bool):∀ (l:List Int) (i:Nat),decide (0≤dD.L1 f dD.K1 l i)=l.any f
 | [],i=>by simp [dD.L1,dD.K1]
 | y::l,i=>by
  have ih:=zd f l (i+1)
  simp only [dD.L1,List.any_cons]
  by_cases hf:f y=true
  ·simp [hf]
  ·simp only [Bool.not_eq_true] at hf
   simp only [hf,cond_false,Bool.false_or]
   exact ih
theorem containsF (l:List Int) (f:Int→Bool):cw l f=l.any f:=zd f l 0
theorem zp (l:List Budget):cx l=gG l:=by
 have hR:∀ x,jf x=i5 x:=fun x=>by
  rw [Bool.eq_iff_iff]
  simp only [jf,i5,Bool.cond_eq_ite,aU,containsF,gV,List.any_cons,List.any_nil,Bool.or_false,hZ,kx]
  cases x.Gone <;> simp only [if_true,if_false,Bool.false_eq_true,Bool.and_eq_true,Bool.or_eq_true,Bool.not_eq_true',decide_eq_true_eq,decide_eq_false_iff_not,beq_iff_eq,Bool.and_eq_false_iff,Bool.or_eq_false_iff]
   <;> (split <;> simp only [Bool.false_eq_true,iff_false,decide_eq_true_eq,Bool.and_eq_true,beq_iff_eq] <;> omega)
 have h1:∀ (L l:List Budget) i,gG.L1 L gG.K1 l i=refChk i5 (·.No) 180 L l i:=by
  intro L l
  induction l with
  | nil=>intro i;rfl
  | cons y l ih=>intro i;simp only [gG.L1,refChk,ih]
 have h2:∀ (l:List Budget) g,cx.L1 cx.K1 l g=prgChk i5 (·.No) 180 l g:=by
  intro l
  induction l with
  | nil=>intro g;rfl
  | cons y l ih=>intro g;simp only [cx.L1,prgChk,ih,hR]
 unfold cx gG
 rw [h1,h2,Ce]
 intro y hy
 simp only [i5,Bool.cond_eq_ite] at hy
 split at hy
 ·cases hy
 ·next h=>simp only [Bool.or_eq_true,not_or,decide_eq_true_eq,hZ,Bool.not_eq_true',Bool.and_eq_false_iff,decide_eq_false_iff_not] at h;omega
theorem vL (l:List Approval):bU l=gF l:=by
 have hR:∀ x,iE x=iY x:=fun x=>by
  rw [Bool.eq_iff_iff]
  simp only [iE,iY,Bool.cond_eq_ite,dh,containsF,gB,List.any_cons,List.any_nil,Bool.or_false,fZ,lX,px]
  simp only [Bool.and_eq_true,Bool.or_eq_true,Bool.not_eq_true',decide_eq_true_eq,decide_eq_false_iff_not,Bool.and_eq_false_iff,Bool.or_eq_false_iff]
  split <;> simp only [Bool.false_eq_true,iff_false,decide_eq_true_eq,Bool.and_eq_true] <;> omega
 have h1:∀ (L l:List Approval) i,gF.L1 L gF.K1 l i=refChk iY (·.No) 280 L l i:=by
  intro L l
  induction l with
  | nil=>intro i;rfl
  | cons y l ih=>intro i;simp only [gF.L1,refChk,ih]
 have h2:∀ (l:List Approval) g,bU.L1 bU.K1 l g=prgChk iY (·.No) 280 l g:=by
  intro l
  induction l with
  | nil=>intro g;rfl
  | cons y l ih=>intro g;simp only [bU.L1,prgChk,ih,hR]
 unfold bU gF
 rw [h1,h2,Ce]
 intro y hy
 simp only [iY,Bool.cond_eq_ite] at hy
 split at hy
 ·cases hy
 ·next h=>simp only [Bool.or_eq_true,not_or,decide_eq_true_eq,fZ,Bool.not_eq_true',Bool.and_eq_false_iff,decide_eq_false_iff_not] at h;omega
def refLs (B:Int→Bool) (L:List Int) (k:Bool):List Int→Nat→Bool
 | [],_=>k
 | y::l,i=>bif (B y)||(decide (0 < (i:Int))&&decide (y≤nthI L ((i:Int) - 1))) then false else refLs B L k l (i+1)
theorem AK (B:Int→Bool) (L:List Int) (k:Bool):∀ (l pre:List Int) (x:Int),L=(pre++[x])++l→refLs B L k l (pre.length+1)=true→((∀ y∈l,B y=false)∧k=true)∧(x::l).Pairwise (· < ·)
 | [],_,_,_,h=>⟨⟨fun _ h=>(List.not_mem_nil h).elim,h⟩,by simp⟩
 | y::l,pre,x,h,hr=>by
  have hx:nthI L (((pre.length+1:Nat):Int) - 1)=x:=by
   have hb:0≤(((pre.length+1:Nat):Int) - 1)∧(((pre.length+1:Nat):Int) - 1) < (L.length:Int):=by rw [h];simp;omega
   have hg:=dU hb
   rw [show ((((pre.length+1:Nat):Int) - 1)).toNat=pre.length from by omega,h] at hg
   rw [h];simpa using hg.symm
  simp only [refLs,hx,Bool.cond_eq_ite] at hr
  split at hr
  ·cases hr
  ·next hc=>
   simp only [Bool.or_eq_true,Bool.and_eq_true,decide_eq_true_eq,not_or] at hc
   have ih:=AK B L k l (pre++[x]) y (by rw [h];simp)
   rw [List.length_append,List.length_cons,List.length_nil,Nat.zero_add] at ih
   obtain ⟨⟨i1,i2⟩,i3⟩:=ih hr
   have hxy:x < y:=by omega
   refine ⟨⟨fun z hz=>?_,i2⟩,List.pairwise_cons.2 ⟨fun z hz=>?_,i3⟩⟩
   ·rcases List.mem_cons.1 hz with rfl | hz
    ·simpa using hc.1
    ·exact i1 z hz
   ·rcases List.mem_cons.1 hz with rfl | hz
    ·exact hxy
    ·have:=(List.pairwise_cons.1 i3).1 z hz;omega
theorem JZ {B:Int→Bool} {k:Bool} {l:List Int} (h:refLs B l k l 0=true):((∀ y∈l,B y=false)∧k=true)∧l.Pairwise (· < ·):=by
 cases l with
 | nil=>exact ⟨⟨fun _ h=>(List.not_mem_nil h).elim,h⟩,List.Pairwise.nil⟩
 | cons y l=>
  simp only [refLs,Bool.cond_eq_ite] at h
  split at h
  ·cases h
  ·next hc=>
   simp only [Bool.or_eq_true,not_or] at hc
   obtain ⟨⟨i1,i2⟩,i3⟩:=AK B (y::l) k l [] y rfl h
   refine ⟨⟨fun z hz=>?_,i2⟩,i3⟩
   rcases List.mem_cons.1 hz with rfl | hz
   ·simpa using hc.1
   ·exact i1 z hz
theorem AJ {l:List Int} {limit:Int} (h:eu l limit=true):((∀ x∈l,0≤x∧x < limit)∧l.Pairwise (· < ·))∧l.length≤16:=by
 have e:∀ (L l:List Int) i,eu.L1 L limit (eu.K1 L) l i=refLs (fun y=>decide (y < 0)||decide (limit≤y)) L (eu.K1 L) l i:=by
  intro L l
  induction l with
  | nil=>intro i;rfl
  | cons y l ih=>intro i;simp only [eu.L1,refLs,ih]
 unfold eu at h
 rw [e] at h
 obtain ⟨⟨h1,h2⟩,h3⟩:=JZ h
 refine ⟨⟨fun x hx=>?_,h3⟩,?_⟩
 ·have:=h1 x hx;simp only [Bool.or_eq_false_iff,decide_eq_false_iff_not] at this;omega
 ·simp only [eu.K1,decide_eq_true_eq] at h2;omega
theorem EX {d:Document} (h:iB d=true):Ib d:=by
 simp only [iB,Bool.cond_eq_ite] at h
 split at h
 ·cases h
 ·next hc=>
  simp only [Bool.or_eq_true,not_or,decide_eq_true_eq,mV,Bool.not_eq_true',Bool.and_eq_false_iff,decide_eq_false_iff_not] at hc
  simp only [Bool.and_eq_true,decide_eq_true_eq] at h
  obtain ⟨⟨⟨⟨⟨h1,h2⟩,h3⟩,h4⟩,h5⟩,h6⟩:=h
  exact ⟨by omega,by omega,by omega,by omega,⟨h1,h2⟩,h3,AJ h4,AJ h5,AJ h6⟩
theorem wQ (L:List Document):∀ (l:List Document) (i:Nat) (m:List (Int×Int)),(aC.L1 (aC.K1 L) l i m).docs=L∧∀ x,mhas (aC.L1 (aC.K1 L) l i m).at_ x=(mhas m x||l.any fun d=>d.No==x)
 | [],i,m=>⟨rfl,fun x=>by simp [aC.L1,aC.K1]⟩
 | y::l,i,m=>by
  obtain ⟨h1,h2⟩:=wQ L l (i+1) (mput m y.No (i:Int))
  refine ⟨h1,fun x=>?_⟩
  show mhas (aC.L1 (aC.K1 L) l (i+1) (mput m y.No (i:Int))).at_ x=_
  rw [h2 x,List.any_cons]
  have:mhas (mput m y.No (i:Int)) x=(mhas m x||y.No==x):=by
   unfold mhas
   rw [yi]
   by_cases e:x=y.No
   ·subst e;simp
   ·rw [if_neg e]
    have:(y.No==x)=false:=by simp;exact fun h=>e h.symm
    rw [this,Bool.or_false]
  rw [this,Bool.or_assoc]
theorem zi (no:Int):∀ (l:List Document) (i:Nat),0≤gg.L1 no gg.K1 l i→(l.any fun d=>d.No==no)=true
 | [],i,h=>by simp [gg.L1,gg.K1] at h
 | y::l,i,h=>by
  simp only [gg.L1,Bool.cond_eq_ite] at h
  rw [List.any_cons]
  by_cases e:(y.No==no)=true
  ·rw [e];rfl
  ·rw [if_neg e] at h
   rw [zi no l (i+1) h,Bool.or_true]
theorem C7 (L:List Document):∀ nos:List Int,dj.L1 L dj.K1 nos=true→∀ x∈nos,(L.any fun d=>d.No==x)=true
 | [],_=>fun _ h=>(List.not_mem_nil h).elim
 | y::nos,h=>by
  simp only [dj.L1,Bool.cond_eq_ite,decide_eq_true_eq] at h
  split at h
  ·cases h
  ·next hc=>
   intro x hx
   rcases List.mem_cons.1 hx with rfl | hx
   ·exact zi x L 0 (by unfold gg at hc;omega)
   ·exact C7 L nos h x hx
theorem My {L:List Document} {d:Document} (h1:dj L d.Revokes=true) (h2:dj L d.Needs=true):ew (aC L) d=true:=by
 have hs:=(wQ L L 0 []).2
 have key:∀ nos,dj L nos=true→cw nos (fun dB=>ej dB (aC L))=false:=by
  intro nos hn
  rw [containsF,List.any_eq_false]
  intro x hx
  unfold ej
  have:=C7 L nos hn x hx
  have e:mhas (aC L).at_ x=true:=by
   show mhas (aC.L1 (aC.K1 L) L 0 []).at_ x=true
   rw [hs x,this,Bool.or_true]
  rw [e];simp
 unfold ew
 rw [key _ h1,key _ h2];rfl
theorem CL {l:List Document} (h:fm l=0):aX l=0:=by
 have L:∀ (L l:List Document) (i:Nat),fm.L1 L fm.K1 l i=0→aX.L1 L aX.K1 l i=0:=by
  intro L l
  induction l with
  | nil=>intros;rfl
  | cons y l ih=>
   intro i h
   simp only [fm.L1,Bool.cond_eq_ite] at h
   split at h
   ·omega
   ·next hc=>
    simp only [Bool.or_eq_true,not_or,Bool.not_eq_true',Bool.not_eq_false,Bool.not_eq_true] at hc
    obtain ⟨⟨⟨c1,c2⟩,c3⟩,c4⟩:=hc
    simp only [aX.L1,(EZ y).2 (EX c1),c2,My c3 c4,Bool.not_true,Bool.or_false,cond_false]
    exact ih (i+1) h
 unfold fm at h
 unfold aX
 rw [Bool.cond_eq_ite] at h ⊢
 split at h
 ·omega
 ·next hc=>rw [if_neg hc];exact L l l 0 h
theorem Fv (mode:Int) (l:List Version) (old:Bool):(judgesP mode l old).Sublist l:=by
 unfold judgesP ip gT io
 cases mode==1 <;> cases mode==2 <;> cases old <;> simp [List.take_sublist,List.drop_sublist]
theorem Ck (begun at_:Int) (k:Bool→List Version→List Int×Int×Int):∀ (l:List (Int×Version)) b g,∃ (pre:List (Int×Version)) (b':Bool),pre.Sublist l∧bE.L1 begun at_ k l b g=k b' (g++pre.map (·.2))
 | [],b,g=>⟨[],b,List.Sublist.refl _,by simp [bE.L1]⟩
 | y::l,b,g=>by
  simp only [bE.L1]
  cases decide (at_ < y.1)
  ·obtain ⟨pre,b',h1,h2⟩:=Ck begun at_ k l (b||(y.1==begun)) (g++[y.2])
   exact ⟨y::pre,b',h1.cons_cons _,by rw [cond_false,h2];simp⟩
  ·exact ⟨[],b,List.nil_sublist _,by simp⟩
theorem Ls {l:List Version} (h:l.Pairwise (fun a b=>a.No < b.No)) {a b:Version} (ha:a∈l) (hb:b∈l) (e:a.No=b.No):a=b:=by
 induction l with
 | nil=>cases ha
 | cons x l ih=>
  obtain ⟨h1,h2⟩:=List.pairwise_cons.1 h
  rcases List.mem_cons.1 ha with ea | ha' <;> rcases List.mem_cons.1 hb with eb | hb'
  ·rw [ea,eb]
  ·have:=h1 b hb';rw [ea] at e;omega
  ·have:=h1 a ha';rw [eb] at e;omega
  ·exact ih h2 ha' hb'
theorem mg (known eK:Int):∀ (l:List Version) b m,(m.map (·.1)).Nodup→((inForceM known eK l b m).map (·.1)).Nodup
 | [],b,m,h=>h
 | y::l,b,m,h=>by
  simp only [inForceM,Bool.cond_eq_ite]
  split
  ·exact mg known eK l _ _ h
  ·split
   ·split
    ·exact mg known eK l _ _ h
    ·exact mg known eK l _ _ (mX _ _ h)
   ·exact mg known eK l _ _ (mX _ _ h)
theorem D8 (l:List Version) (eK known:Int):(ft l eK known).Pairwise (fun p q=>p.1 < q.1):=by
 rw [wm,List.pairwise_map]
 exact xS (kw _) ((j3 _).nodup_iff.2 (mg known eK l (-1) [] List.nodup_nil))
theorem Fz {l:List Version} (g:DI l) (eK known:Int):(ft l eK known).Pairwise (fun p q=>p.2.No≠q.2.No):=by
 have hP:=zc (l:=l) (eK:=eK) (known:=known) (fun p=>((p.2.At≤eK∧p.1=eK)∨(eK < p.2.At∧p.1=p.2.At))∧p.2∈l) (fun y hy h=>⟨.inl ⟨h,rfl⟩,hy⟩) (fun y hy h=>⟨.inr ⟨h,rfl⟩,hy⟩)
 refine (D8 l eK known).imp_of_mem fun {p q} hp hq hlt e=>?_
 have h1:=hP p hp
 have h2:=hP q hq
 have h3:=Ls g.inc h1.2 h2.2 e
 rw [h3] at h1
 omega
structure Jdg (l:List Version) (J:List Int×Int×Int):Prop where
 err:J.2.2=0
 rise:J.1.Pairwise (· < ·)
 mem:∀ x∈J.1,∃ v∈l,v.No=x
 mode:J.1≠[]→1≤J.2.1∧J.2.1≤4
 mode2:J.2.1≠0→1≤J.2.1∧J.2.1≤4
theorem IR {l:List Version} (g:DI l) {begun at_ known:Int} (hb:0≤begun∧begun < 1099511627776) (ht:0≤at_∧at_ < 1099511627776) (hk:0≤known∧known < 1099511627776) (hle:begun≤at_):Jdg l (bE l begun at_ known):=by
 have h0:bF l=0:=(oJ l).2 g
 have h1:∀ x:Int,0≤x∧x < 1099511627776→gj x=true:=fun x hx=>by simp [gj,hx]
 have h2:decide (at_ < begun)=false:=by simp;omega
 unfold bE
 rw [h0,h1 _ hb,h1 _ ht,h1 _ hk,h2]
 simp only [bne_self_eq_false,cond_false,Bool.not_true,Bool.or_false]
 obtain ⟨pre,b',hs,e⟩:=Ck begun at_ bE.K1 (ft l begun known) false []
 rw [e,List.nil_append]
 unfold bE.K1
 cases hc:(((pre.map (·.2)).length:Int)==0) with
 | true=>exact ⟨rfl,List.Pairwise.nil,fun x hx=>(List.not_mem_nil hx).elim,fun h=>absurd rfl h,fun h=>absurd rfl h⟩
 | false=>
  simp only [cond_false,yE,bE.K2,List.nil_append]
  have hpre:pre.length≠0:=by simpa using hc
  have hsub:=Fv ((nthI (pre.map (·.2)) (((pre.map (·.2)).length:Int) - 1)).Policy.Mode) (pre.map (·.2)) b'
  have hnd:(pre.map (·.2)).Pairwise (fun a b=>a.No≠b.No):=by
   rw [List.pairwise_map]
   exact (Fz g begun known).sublist hs
  have hmode:1≤(nthI (pre.map (·.2)) (((pre.map (·.2)).length:Int) - 1)).Policy.Mode∧(nthI (pre.map (·.2)) (((pre.map (·.2)).length:Int) - 1)).Policy.Mode≤4:=by
   have hm:nthI (pre.map (·.2)) (((pre.map (·.2)).length:Int) - 1)∈pre.map (·.2):=mL (by rw [List.length_map];omega)
   obtain ⟨p,hp,hpe⟩:=List.mem_map.1 hm
   have:=g.mode (uu p (hs.subset hp))
   rw [hpe] at this
   exact this
  refine ⟨rfl,xS (kw _) ((j3 _).nodup_iff.2 ?_),fun x hx=>?_,fun _=>hmode,fun _=>hmode⟩
  ·show List.Pairwise _ _
   rw [List.pairwise_map]
   exact hnd.sublist hsub
  ·have hx2:=(j3 _).mem_iff.1 hx
   obtain ⟨v,hv,rfl⟩:=List.mem_map.1 hx2
   obtain ⟨p,hp,rfl⟩:=List.mem_map.1 (hsub.subset hv)
   exact ⟨p.2,uu p (hs.subset hp),rfl⟩
theorem GT {mode:Int} (hm:1≤mode∧mode≤4) {l:List Bool} (hl:l.length≤256):(iQ mode l).2=0:=by
 have hc:jg mode l=0:=by
  have h1:mhas j2 mode=true:=by
   have:mode=1∨mode=2∨mode=3∨mode=4:=by omega
   rcases this with rfl | rfl | rfl | rfl <;> rfl
  unfold jg
  rw [h1,show decide (256 < (l.length:Int))=false from decide_eq_false (by omega)]
  rfl
 have k1:∀ (k:List Int→List Int×Bool×Int),(∀ g,(k g).2.2=0)→∀ (s:List Bool) i g,(bD.L1 k s i g).2.2=0:=by
  intro k hk s
  induction s with
  | nil=>intro i g;exact hk g
  | cons y s ih=>intro i g;exact ih _ _
 have k2:∀ (k:List Int→List Int×Bool×Int),(∀ g,(k g).2.2=0)→∀ (s:List Bool) i g,(bD.L2 k s i g).2.2=0:=by
  intro k hk s
  induction s with
  | nil=>intro i g;exact hk g
  | cons y s ih=>intro i g;exact ih _ _
 have k3:∀ (k:List Int→List Int×Bool×Int),(∀ g,(k g).2.2=0)→∀ (s:List Bool) i g,(bD.L3 k s i g).2.2=0:=by
  intro k hk s
  induction s with
  | nil=>intro i g;exact hk g
  | cons y s ih=>intro i g;exact ih _ _
 show (bD mode l).2.2=0
 unfold bD
 rw [hc]
 simp only [bne_self_eq_false,cond_false,Bool.cond_eq_ite]
 repeat' split
 all_goals first
  | rfl
  | exact k1 _ (fun _=>rfl) _ _ _
  | exact k2 _ (fun _=>rfl) _ _ _
  | exact k3 _ (fun _=>rfl) _ _ _
theorem Gd {l:List Appoint} (hc:cZ l=0) {o t known:Int} (ho:0≤o∧o < 32) (ht:0≤t∧t < 1099511627776) (hk:0≤known∧known < 1099511627776):(eh l o t known).2=0:=by
 have h1:∀ x:Int,0≤x∧x < 1099511627776→di x=true:=fun x hx=>by simp only [di,dQ,Bool.and_eq_true,decide_eq_true_eq];omega
 have h2:eM o=true:=by simp only [eM,dQ,Bool.and_eq_true,decide_eq_true_eq];omega
 unfold eh
 rw [hc,h1 t ht,h1 known hk,h2]
 rfl
theorem s7 (k:Int→Int) (hk:∀ g,k g=0):∀ (l:List Int) (g:Int),(∀ x∈l,g < x∧x≤1048576)→l.Pairwise (· < ·)→cM.L1 k l g=0
 | [],g,_,_=>hk g
 | y::l,g,h,hp=>by
  have h1:=h y (List.mem_cons_self ..)
  have e:(decide (y≤g)||decide (1048576 < y))=false:=by simp;omega
  simp only [cM.L1,e,cond_false]
  exact s7 k hk l y (fun x hx=>⟨(List.pairwise_cons.1 hp).1 x hx,(h x (List.mem_cons_of_mem _ hx)).2⟩) (List.pairwise_cons.1 hp).2
theorem Ep {l:List Interest} (hc:cN l=0) {p t known:Int} {ps:List Int} (hp:0≤p∧p < 64) (hps:((∀ x∈ps,0≤x∧x < 1048577)∧ps.Pairwise (· < ·))∧ps.length≤16) (ht:0≤t∧t < 1099511627776) (hk:0≤known∧known < 1099511627776):(cC l p ps t known).2.2=0:=by
 have e:cM l p ps t known=0:=by
  unfold cM
  rw [hc]
  refine s7 _ (fun g=>?_) ps (-1) (fun x hx=>by have:=hps.1.1 x hx;omega) hps.1.2
  unfold cM.K1
  have h1:bI p 64=true:=by simp [bI,hp]
  have h2:bI t 1099511627776=true:=by simp [bI,ht]
  have h3:bI known 1099511627776=true:=by simp [bI,hk]
  have h4:decide (16 < (ps.length:Int))=false:=by simp;omega
  rw [h1,h2,h3,h4];rfl
 unfold cC
 rw [e];rfl
theorem yt {β : Type} (F:(Expr→β)→Expr→β) (go:Nat→Expr→β) (h:∀ m,go (m+1)=F (go m)) (hF:∀ f g x,(∀ y∈x.L,f y=g y)→F f x=F g x) (x:Expr):go x.dep x=F (fun y=>go y.dep y) x:=by
 have key:∀ x:Expr,∀ m,x.dep≤m→go m x=go x.dep x:=by
  refine fun x=>Expr.ind (P:=fun x=>∀ m,x.dep≤m→go m x=go x.dep x) ?_ x
  intro x ih m hm
  have hp:=Expr.kB x
  obtain ⟨m',rfl⟩:∃ m',m=m'+1:=⟨m - 1,by omega⟩
  obtain ⟨n,hn⟩:∃ n,x.dep=n+1:=⟨x.dep - 1,by omega⟩
  rw [hn,h,h]
  refine hF _ _ _ fun y hy=>?_
  have:=Expr.iU hy
  rw [ih y hy m' (by omega),ih y hy n (by omega)]
 have hp:=Expr.kB x
 obtain ⟨n,hn⟩:∃ n,x.dep=n+1:=⟨x.dep - 1,by omega⟩
 rw [hn,h]
 refine hF _ _ _ fun y hy=>?_
 have:=Expr.iU hy
 exact key y n (by omega)
theorem KU (x:Expr):bj x=bj.F bj x:=by
 refine yt bj.F bj.go (fun m=>rfl) (fun f g x h=>?_) x
 unfold bj.F
 have:∀ (k:Int→Int) (l:List Expr) a,(∀ y∈l,f y=g y)→bj.L1 f k l a=bj.L1 g k l a:=by
  intro k l
  induction l with
  | nil=>intros;rfl
  | cons y l ih=>intro a hl;simp only [bj.L1,hl y (List.mem_cons_self ..)];exact ih _ fun z hz=>hl z (List.mem_cons_of_mem _ hz)
 exact this _ _ _ h
theorem depthL (l:List Expr):∀ (a:Int),a≤bj.L1 bj (fun g=>g) l a∧(∀ y∈l,bj y≤bj.L1 bj (fun g=>g) l a)∧∀ M:Int,a≤M→(∀ y∈l,bj y≤M)→bj.L1 bj (fun g=>g) l a≤M:=by
 induction l with
 | nil=>intro a;exact ⟨Int.le_refl _,fun _ h=>(List.not_mem_nil h).elim,fun M h _=>h⟩
 | cons y l ih=>
  intro a
  obtain ⟨i1,i2,i3⟩:=ih (max a (bj y))
  simp only [bj.L1]
  refine ⟨by omega,fun w hw=>?_,fun M h1 h2=>i3 M (by have:=h2 y (List.mem_cons_self ..);omega) fun w hw=>h2 w (List.mem_cons_of_mem _ hw)⟩
  rcases List.mem_cons.1 hw with rfl | hw
  ·omega
  ·exact i2 w hw
theorem depthK (l:List Expr):∀ (a:Int),bj.L1 bj bj.K1 l a=IntKind.i64.wrap (bj.L1 bj (fun g=>g) l a+1):=by
 induction l with
 | nil=>intro a;rfl
 | cons y l ih=>intro a;exact ih _
theorem FU (x:Expr):x.dep≤1500000→(1≤bj x∧bj x≤x.dep)∧bj x=bj.L1 bj (fun g=>g) x.L 0+1:=by
 refine Expr.ind (P:=fun x=>x.dep≤1500000→(1≤bj x∧bj x≤x.dep)∧bj x=bj.L1 bj (fun g=>g) x.L 0+1) ?_ x
 intro x ih hx
 obtain ⟨i1,i2,i3⟩:=depthL x.L 0
 have hp:=Expr.kB x
 have h3:=i3 ((x.dep:Int) - 1) (by omega) fun y hy=>by
  have h4:=Expr.iU hy
  have:=(ih y hy (by omega)).1.2
  omega
 have e:bj x=bj.L1 bj (fun g=>g) x.L 0+1:=by
  rw [KU]
  unfold bj.F
  rw [depthK,wrap64 (by omega)]
 exact ⟨by omega,e⟩
theorem FT (x:Expr):x.dep≤1500000→∀ (d D:Int),bj x≤D→∀ z∈bq x d,z.depth≤d+D - 1:=by
 refine Expr.ind (P:=fun x=>x.dep≤1500000→∀ (d D:Int),bj x≤D→∀ z∈bq x d,z.depth≤d+D - 1) ?_ x
 intro x ih hx d D hD z hz
 obtain ⟨h1,h2⟩:=FU x hx
 rw [mb] at hz
 rcases List.mem_cons.1 hz with rfl | hz
 ·show d≤d+D - 1;omega
 ·obtain ⟨y,hy,hz⟩:=List.mem_flatMap.1 hz
  have h4:=Expr.iU hy
  have h5:=(depthL x.L 0).2.1 y hy
  have:=ih y hy (by omega) (d+1) (D - 1) (by omega) z hz
  omega
theorem KS (x:Expr):dl x=dl.F dl x:=by
 refine yt dl.F dl.go (fun m=>rfl) (fun f g x h=>?_) x
 funext limit
 unfold dl.F
 have:∀ (k:Int→Int) (l:List Expr) a,(∀ y∈l,f y=g y)→dl.L1 f limit k l a=dl.L1 g limit k l a:=by
  intro k l
  induction l with
  | nil=>intros;rfl
  | cons y l ih=>
   intro a hl
   simp only [dl.L1,hl y (List.mem_cons_self ..)]
   rw [ih _ fun z hz=>hl z (List.mem_cons_of_mem _ hz)]
 exact this _ _ _ h
def cnt (x:Expr):Nat:=(bq x 1).length
theorem MX (x:Expr):∀ d,(bq x d).length=cnt x:=by
 refine Expr.ind (P:=fun x=>∀ d,(bq x d).length=cnt x) ?_ x
 intro x ih d
 unfold cnt
 rw [mb,mb x 1,List.length_cons,List.length_cons,List.length_flatMap,List.length_flatMap]
 congr 2
 apply List.map_congr_left
 intro y hy
 rw [ih y hy,ih y hy]
theorem KK (x:Expr):cnt x=1+(x.L.map cnt).sum:=by
 conv=>lhs;unfold cnt
 rw [mb,List.length_cons,List.length_flatMap,Nat.add_comm]
 congr 2
 apply List.map_congr_left
 intro y hy
 exact MX y _
theorem DG (x:Expr):∀ limit:Int,0≤limit→limit≤256→dl x limit=min (cnt x:Int) (limit+1):=by
 refine Expr.ind (P:=fun x=>∀ limit:Int,0≤limit→limit≤256→dl x limit=min (cnt x:Int) (limit+1)) ?_ x
 intro x ih limit h0 h1
 rw [KS,KK]
 unfold dl.F
 have key:∀ (l:List Expr) (a:Int),(∀ y∈l,y∈x.L)→1≤a→a≤limit+1→dl.L1 dl limit dl.K1 l a=min (a+((l.map cnt).sum:Nat)) (limit+1):=by
  intro l
  induction l with
  | nil=>intro a _ _ ha;simp only [dl.L1,dl.K1,List.map_nil,List.sum_nil];omega
  | cons y l ih2=>
   intro a hl h2 h3
   simp only [dl.L1,Bool.cond_eq_ite,decide_eq_true_eq,List.map_cons,List.sum_cons]
   by_cases ha:a≤limit
   ·rw [if_pos ha,wrap64 (z:=limit - a) (by omega),ih y (hl y (List.mem_cons_self ..)) (limit - a) (by omega) (by omega)]
    have hc:1≤cnt y:=by rw [KK];omega
    rw [wrap64 (by omega),ih2 _ (fun z hz=>hl z (List.mem_cons_of_mem _ hz)) (by omega) (by omega)]
    omega
   ·rw [if_neg ha]
    simp only [dl.K1]
    omega
 rw [key x.L 1 (fun y hy=>hy) (by omega) (by omega)]
 omega
theorem Fs {x:Expr} (hx:x.dep≤1500000) (h:iZ x=false):(bq x 1).length≤256∧∀ z∈bq x 1,z.depth≤16:=by
 simp only [iZ,Bool.or_eq_false_iff,decide_eq_false_iff_not] at h
 have h1:=DG x 256 (by decide) (by decide)
 have h2:=FT x hx 1 16 (by omega)
 refine ⟨?_,fun z hz=>by have:=h2 z hz;omega⟩
 show cnt x≤256
 omega
theorem yK (s:ByteArray):∀ (m i:Nat) (r:List UInt8),s.size - i=m→(ByteArray.toList.loop s i r).length=r.length+m
 | 0,i,r,h=>by rw [ByteArray.toList.loop];rw [if_neg (by omega)];simp
 | m+1,i,r,h=>by
  rw [ByteArray.toList.loop,if_pos (by omega),yK s m (i+1) _ (by omega),List.length_cons]
  omega
theorem sk (s:ByteArray):s.toList.length=s.size:=by
 have:=yK s s.size 0 [] (by omega)
 simpa [ByteArray.toList] using this
theorem LO {α : Type} (c:Bool) (a b d:α):(bif c then (bif c then a else b) else d)=bif c then a else d:=by cases c <;> rfl
theorem ME (c x:Bool):(bif c then false else x)=(!c&&x):=by cases c <;> rfl
theorem MD (c x:Bool):(bif c then true else x)=(c||x):=by cases c <;> simp
theorem Du (s:ByteArray):dC s=(dG s&&!(lY s)):=by
 unfold dC lY
 simp only [LO]
 simp only [ME,MD,Bool.not_or,Bool.or_false]
 ac_rfl
theorem xI (c:Int):(jz c != 2)=!(jQ c):=by
 unfold jz jQ
 cases ((decide (97≤c)&&decide (c≤122))||(decide (65≤c)&&decide (c≤90))) <;> cases (decide (48≤c)&&decide (c≤57)) <;> cases (c==95) <;> cases ((((c==32)||(c==9))||(c==10))||(c==13)) <;> cases (decide (0≤(strings_IndexByte (⟨#[123,125,40,41,59,44,61,58,46,60,62,33,43,45,42,47]⟩:ByteArray) c))) <;> rfl
theorem GO (c:Int):(((jz c != 2)&&(jz c != 3))&&(jz c != 5))=!(n0 c):=by
 unfold jz n0 jQ lm
 cases ((decide (97≤c)&&decide (c≤122))||(decide (65≤c)&&decide (c≤90))) <;> cases (decide (48≤c)&&decide (c≤57)) <;> cases (c==95) <;> cases ((((c==32)||(c==9))||(c==10))||(c==13)) <;> cases (decide (0≤(strings_IndexByte (⟨#[123,125,40,41,59,44,61,58,46,60,62,33,43,45,42,47]⟩:ByteArray) c))) <;> rfl
theorem D4 (s:ByteArray):∀ (l:List Nat) (i:Nat),dG.L1 s dG.K1 l i=gh.L1 s gh.K1 l i
 | [],i=>rfl
 | y::l,i=>by simp only [dG.L1,gh.L1,GO,D4 s l]
theorem HA {s:ByteArray} (h:gh s=true):dG s=true:=by
 unfold gh at h
 unfold dG
 rw [xI,D4]
 rw [Bool.cond_eq_ite] at h ⊢
 split at h
 ·cases h
 ·next hc=>
  simp only [Bool.or_eq_true,not_or,decide_eq_true_eq] at hc
  obtain ⟨⟨h1,h2⟩,h3⟩:=hc
  have e:(s.toList==(⟨#[]⟩:ByteArray).toList)=false:=by
   rw [Bool.eq_false_iff]
   intro he
   have he:=eq_of_beq he
   have h9:=sk s
   rw [he,sk] at h9
   have:(⟨#[]⟩:ByteArray).size=0:=rfl
   omega
  rw [e,if_neg]
  ·exact h
  ·simp only [Bool.false_or,Bool.or_eq_true,not_or,decide_eq_true_eq]
   exact ⟨h2,h3⟩
theorem HN {s:ByteArray} (h:ll s=true):dC s=true:=by
 simp only [ll,Bool.and_eq_true] at h
 rw [Du,HA h.1,h.2];rfl
theorem Dd (s:ByteArray):∀ (l:List ByteArray) (i:Nat),ed.L1 s ed.K1 l i=aP.L1 s aP.K1 l i
 | [],i=>rfl
 | y::l,i=>by
  have:(y.toList==s.toList)=(s.toList==y.toList):=by rw [Bool.eq_iff_iff,beq_iff_eq,beq_iff_eq];exact eq_comm
  simp only [ed.L1,aP.L1,this,Dd s l]
theorem rindex (l:List ByteArray) (s:ByteArray):ed l s=aP l s:=Dd s l 0
theorem zk {l:List ByteArray} (h:ep l=true):bA l dC=true:=by
 have key:∀ (L l:List ByteArray) (i:Nat),ep.L1 L ep.K1 l i=true→bA.L1 L dC bA.K1 l i=true:=by
  intro L l
  induction l with
  | nil=>intros;rfl
  | cons y l ih=>
   intro i h
   simp only [ep.L1,Bool.cond_eq_ite] at h
   split at h
   ·cases h
   ·next hc=>
    simp only [Bool.or_eq_true,not_or,Bool.not_eq_true',Bool.not_eq_false,Bool.not_eq_true] at hc
    simp only [bA.L1,HN hc.1,← rindex,hc.2,Bool.not_true,Bool.or_self,cond_false]
    exact ih _ h
 exact key l l 0 h
theorem qQ (off:List ByteArray) {f g:List ByteArray→Expr→Bool} (k:Bool):∀ (l:List Expr),(∀ y∈l,f off y=g off y)→bM.L1 f off k l=bM.L1 g off k l
 | [],_=>rfl
 | y::l,h=>by simp only [bM.L1,h y (List.mem_cons_self ..),qQ off k l fun z hz=>h z (List.mem_cons_of_mem _ hz)]
theorem Fg (off:List ByteArray) (x:Expr):bM off x=bM.F bM off x:=by
 have:=yt (fun f x=>bM.F (fun _ y=>f y) off x) (fun m x=>bM.go m off x) (fun m=>?_) (fun f g x h=>?_) x
 ·refine Eq.trans this ?_
  show bM.F _ off x=_
  unfold bM.F
  rw [qQ off (f:=fun _ y=>bM.go y.dep off y) (g:=bM) _ x.L fun y hy=>rfl]
 ·funext x
  show bM.F (bM.go m) off x=bM.F _ off x
  unfold bM.F
  rw [qQ off (f:=bM.go m) (g:=fun _ y=>bM.go m off y) _ x.L fun y hy=>rfl]
 ·show bM.F _ off x=bM.F _ off x
  unfold bM.F
  rw [qQ off (f:=fun _ y=>f y) (g:=fun _ y=>g y) _ x.L h]
theorem Dp (off:List ByteArray):∀ (l:List Expr),bM.L1 bM off bM.K1 l=true→∀ y∈l,bM off y=true
 | [],_=>fun _ h=>(List.not_mem_nil h).elim
 | y::l,h=>by
  simp only [bM.L1,Bool.cond_eq_ite] at h
  split at h
  ·cases h
  ·next hc=>
   intro z hz
   rcases List.mem_cons.1 hz with rfl | hz
   ·simpa using hc
   ·exact Dp off l h z hz
theorem Ff (off:List ByteArray) (x:Expr):bM off x=true→∀ d,∀ z∈bq x d,((!(df z.x))||cR off z.x.Name)=true:=by
 refine Expr.ind (P:=fun x=>bM off x=true→∀ d,∀ z∈bq x d,((!(df z.x))||cR off z.x.Name)=true) ?_ x
 intro x ih h d z hz
 rw [Fg] at h
 unfold bM.F at h
 rw [Bool.cond_eq_ite] at h
 split at h
 ·cases h
 ·next hc=>
  rw [mb] at hz
  rcases List.mem_cons.1 hz with rfl | hz
  ·show ((!(df x))||cR off x.Name)=true
   unfold cR df
   rw [rindex] at hc
   by_cases h2:aP off x.Name < 0
   ·have:decide (aP off x.Name < 0)=true:=by simpa using h2
    rw [this,Bool.and_true] at hc
    simp only [Bool.not_eq_true] at hc
    rw [hc];rfl
   ·have:decide (0≤aP off x.Name)=true:=by simp;omega
    rw [this,Bool.or_true]
  ·obtain ⟨y,hy,hz⟩:=List.mem_flatMap.1 hz
   exact ih y hy (Dp off x.L h y hy) (d+1) z hz
theorem pm (u:Bool) {f g:Expr→Bool→Bool} (k:Bool):∀ (l:List Expr),(∀ y∈l,f y u=g y u)→aG.L1 f u k l=aG.L1 g u k l
 | [],_=>rfl
 | y::l,h=>by simp only [aG.L1,h y (List.mem_cons_self ..),pm u k l fun z hz=>h z (List.mem_cons_of_mem _ hz)]
theorem Dw (x:Expr) (u:Bool):aG x u=aG.F aG x u:=by
 have:=yt (fun f x=>aG.F (fun y _=>f y) x u) (fun m x=>aG.go m x u) (fun m=>?_) (fun f g x h=>?_) x
 ·refine Eq.trans this ?_
  show aG.F _ x u=_
  unfold aG.F
  rw [pm u (f:=fun y _=>aG.go y.dep y u) (g:=aG) _ x.L fun y hy=>rfl]
 ·funext x
  show aG.F (aG.go m) x u=aG.F _ x u
  unfold aG.F
  rw [pm u (f:=aG.go m) (g:=fun y _=>aG.go m y u) _ x.L fun y hy=>rfl]
 ·show aG.F _ x u=aG.F _ x u
  unfold aG.F
  rw [pm u (f:=fun y _=>f y) (g:=fun y _=>g y) _ x.L h]
theorem BM (u k:Bool):∀ (l:List Expr),aG.L1 aG u k l=true→(∀ y∈l,aG y u=true)∧k=true
 | [],h=>⟨fun _ h=>(List.not_mem_nil h).elim,h⟩
 | y::l,h=>by
  simp only [aG.L1,Bool.cond_eq_ite] at h
  split at h
  ·cases h
  ·next hc=>
   obtain ⟨h1,h2⟩:=BM u k l h
   refine ⟨fun z hz=>?_,h2⟩
   rcases List.mem_cons.1 hz with rfl | hz
   ·simpa using hc
   ·exact h1 z hz
theorem IF {x:Expr} {u:Bool} (h:aG.K1 x u=true):(aM x.Kind 1 4&&kindsP x.Kind x)=true∧(u=false→x.Kind≠4):=by
 unfold aG.K1 at h
 simp only [Bool.cond_eq_ite,beq_iff_eq] at h
 split at h
 ·next e=>
  rw [e]
  refine ⟨?_,fun _=>by decide⟩
  show (_&&jb x)=true
  unfold jb
  rw [h];rfl
 ·split at h
  ·next e=>
   rw [e]
   refine ⟨?_,fun _=>by decide⟩
   show (_&&ja x)=true
   unfold ja aM
   rw [h];rfl
  ·split at h
   ·next e=>
    rw [e]
    refine ⟨?_,fun _=>by decide⟩
    show (_&&i9 x)=true
    unfold i9 aM
    simp only [Bool.and_eq_true] at h ⊢
    exact ⟨⟨rfl,rfl⟩,⟨h.1.1.1.1,h.1.1.1.2,h.1.1.2⟩,h.1.2,h.2⟩
   ·split at h
    ·next e=>
     rw [e]
     simp only [Bool.and_eq_true] at h
     refine ⟨?_,fun hu=>by rw [hu] at h;simp at h⟩
     show (_&&iF x)=true
     unfold iF aM
     simp only [Bool.and_eq_true]
     exact ⟨⟨rfl,rfl⟩,⟨h.1.1.1.2,h.1.1.2⟩,h.1.2,h.2⟩
    ·cases h
theorem Dv (u:Bool) (x:Expr):aG x u=true→∀ d,∀ z∈bq x d,(aM z.x.Kind 1 4&&kindsP z.x.Kind z.x)=true∧(u=false→z.x.Kind≠4):=by
 refine Expr.ind (P:=fun x=>aG x u=true→∀ d,∀ z∈bq x d,(aM z.x.Kind 1 4&&kindsP z.x.Kind z.x)=true∧(u=false→z.x.Kind≠4)) ?_ x
 intro x ih h d z hz
 rw [Dw] at h
 obtain ⟨h1,h2⟩:=BM u _ x.L h
 rw [mb] at hz
 rcases List.mem_cons.1 hz with rfl | hz
 ·exact IF h2
 ·obtain ⟨y,hy,hz⟩:=List.mem_flatMap.1 hz
  exact ih y hy (h1 y hy) (d+1) z hz
theorem rl1 (rec:List ByteArray→Expr→Expr) (off:List ByteArray) (k:List Expr→Expr):∀ (l g:List Expr),ae.L1 rec off k l g=k (g++l.map (rec off))
 | [],g=>by simp [ae.L1]
 | y::l,g=>by simp [ae.L1,rl1 rec off k l]
theorem rl2 (rec:List ByteArray→Expr→Expr) (off:List ByteArray) (k:List Expr→Expr):∀ (l g:List Expr),ae.L2 rec off k l g=k (g++l.map (rec off))
 | [],g=>by simp [ae.L2]
 | y::l,g=>by simp [ae.L2,rl2 rec off k l]
def rno (off:List ByteArray) (x:Expr):Int:=bif df x then aP off x.Name else 0
theorem Gp (rec:List ByteArray→Expr→Expr) (off:List ByteArray) (x:Expr):ae.F rec off x=Expr.mk x.Kind x.N (rno off x) x.Name (x.L.map (rec off)):=by
 unfold ae.F rno df
 cases ((x.Kind==1)||(x.Kind==2))
 ·rw [cond_false,rl2];rfl
 ·rw [cond_true,rl1];unfold ae.K1;rw [rindex];rfl
theorem yP (off:List ByteArray) (x:Expr):ae off x=Expr.mk x.Kind x.N (rno off x) x.Name (x.L.map (ae off)):=by
 have:=yt (fun f x=>Expr.mk x.Kind x.N (rno off x) x.Name (x.L.map f)) (fun m x=>ae.go m off x) (fun m=>?_) (fun f g x h=>?_) x
 ·exact this
 ·funext x
  show ae.F (ae.go m) off x=_
  rw [Gp]
 ·show Expr.mk _ _ _ _ _=Expr.mk _ _ _ _ _
  rw [List.map_congr_left h]
theorem AC (b:Expr) {f g:Expr→Expr→Bool} (k:Bool):∀ (l:List Expr) (i:Nat),(∀ y∈l,f y=g y)→bh.L1 f b k l i=bh.L1 g b k l i
 | [],_,_=>rfl
 | y::l,i,h=>by simp only [bh.L1,h y (List.mem_cons_self ..),AC b k l (i+1) fun z hz=>h z (List.mem_cons_of_mem _ hz)]
theorem Ho (x:Expr):bh x=bh.F bh x:=by
 refine yt bh.F bh.go (fun m=>rfl) (fun f g x h=>?_) x
 funext b
 unfold bh.F
 rw [AC b _ x.L 0 h]
theorem Hp (b:Expr):∀ (l:List Expr) (i:Nat),bh.L1 bh b bh.K1 l i=true→∀ (j:Nat) (y:Expr),l[j]? = some y→bh y (nthI b.L ((i+j:Nat):Int))=true
 | [],_,_,j,y,hj=>by simp at hj
 | z::l,i,h,j,y,hj=>by
  simp only [bh.L1,Bool.cond_eq_ite] at h
  split at h
  ·cases h
  ·next hc=>
   cases j with
   | zero=>simp at hj;subst hj;simpa using hc
   | succ j=>have:=Hp b l (i+1) h j y (by simpa using hj);rw [show i+(j+1)=i+1+j from by omega];exact this
theorem Ld (off:List ByteArray) (x:Expr):bh (ae off x) x=true→∀ d,∀ z∈bq x d,z.x.No=rno off z.x:=by
 refine Expr.ind (P:=fun x=>bh (ae off x) x=true→∀ d,∀ z∈bq x d,z.x.No=rno off z.x) ?_ x
 intro x ih h d z hz
 rw [Ho,yP] at h
 unfold bh.F at h
 rw [Bool.cond_eq_ite] at h
 split at h
 ·cases h
 ·next hc=>
  simp only [Bool.or_eq_true,not_or,bne_iff_ne,ne_eq,Classical.not_not] at hc
  have hno:rno off x=x.No:=hc.1.1.2
  rw [mb] at hz
  rcases List.mem_cons.1 hz with rfl | hz
  ·exact hno.symm
  ·obtain ⟨y,hy,hz⟩:=List.mem_flatMap.1 hz
   obtain ⟨j,hj⟩:=List.getElem?_of_mem hy
   have h2:=Hp x _ 0 h j (ae off y) (by show (List.map (ae off) x.L)[j]? = _;rw [List.getElem?_map,hj];rfl)
   have hlt:=(List.getElem?_eq_some_iff.1 hj).1
   have hg:=dU (xs:=x.L) (z:=((0+j:Nat):Int)) (by omega)
   rw [show (((0+j:Nat):Int)).toNat=j from by omega,hj] at hg
   rw [← Option.some.inj hg] at h2
   exact ih y hy h2 (d+1) z hz
theorem yO {off:List ByteArray} {x:Expr} (h:bh (ae off x) x=true):bO off x=true:=by
 unfold bO bO.K1
 rw [ov]
 exact Ld off x h 1
def rrules (off:List ByteArray):List Rule→Nat→List Rule
 | [],_=>[]
 | y::l,i=>Rule.mk y.Kind (i:Int) y.Think (ae off y.Expr)::rrules off l (i+1)
theorem AI (off:List ByteArray):∀ (l:List Rule) (i j:Nat) (y:Rule),l[j]? = some y→(rrules off l i)[j]? = some (Rule.mk y.Kind ((i+j:Nat):Int) y.Think (ae off y.Expr))
 | [],_,j,y,h=>by simp at h
 | z::l,i,0,y,h=>by simp at h;subst h;rfl
 | z::l,i,j+1,y,h=>by
  have:=AI off l (i+1) j y (by simpa using h)
  rw [show i+(j+1)=i+1+j from by omega]
  exact this
theorem wC (p:Policy):∀ (l:List Rule) (i:Nat) (g:List Rule),dL.L1 p (dL.K1 p) l i g=(Policy.mk p.Name p.Kinds p.Offices (g++rrules p.Offices l i) (ae p.Offices p.Change) p.Mode,0)
 | [],i,g=>by
  simp only [dL.L1,dL.K1,rrules,List.append_nil,Expr.eta]
 | y::l,i,g=>by
  simp only [dL.L1,wC p l,rrules,Expr.eta,List.append_assoc,List.singleton_append]
theorem H7 (b:Policy):∀ (l:List Rule) (i:Nat),gN.L1 b gN.K1 l i=true→∀ (j:Nat) (y:Rule),l[j]? = some y→y.KindNo=(nthI b.Rules ((i+j:Nat):Int)).KindNo∧bh y.Expr (nthI b.Rules ((i+j:Nat):Int)).Expr=true
 | [],_,_,j,y,hj=>by simp at hj
 | z::l,i,h,j,y,hj=>by
  simp only [gN.L1,Bool.cond_eq_ite] at h
  split at h
  ·cases h
  ·next hc=>
   simp only [Bool.or_eq_true,not_or,bne_iff_ne,ne_eq,Classical.not_not,Bool.not_eq_true',Bool.not_eq_false] at hc
   cases j with
   | zero=>simp at hj;subst hj;exact ⟨hc.1.1.2,hc.2⟩
   | succ j=>have:=H7 b l (i+1) h j y (by simpa using hj);rw [show i+(j+1)=i+1+j from by omega];exact this
theorem Do (p:Policy) (k:Bool):∀ (l:List Rule),gq.L1 p k l=true→(∀ r∈l,bM p.Offices r.Expr=true)∧k=true
 | [],h=>⟨fun _ h=>(List.not_mem_nil h).elim,h⟩
 | y::l,h=>by
  simp only [gq.L1,Bool.cond_eq_ite] at h
  split at h
  ·cases h
  ·next hc=>
   obtain ⟨h1,h2⟩:=Do p k l h
   refine ⟨fun z hz=>?_,h2⟩
   rcases List.mem_cons.1 hz with rfl | hz
   ·simpa using hc
   ·exact h1 z hz
theorem Ft (k:Bool):∀ (l:List Rule),eL.L1 k l=false→∀ r∈l,iZ r.Expr=false
 | [],_=>fun _ h=>(List.not_mem_nil h).elim
 | y::l,h=>by
  simp only [eL.L1,Bool.cond_eq_ite] at h
  split at h
  ·cases h
  ·next hc=>
   intro z hz
   rcases List.mem_cons.1 hz with rfl | hz
   ·simpa using hc
   ·exact Ft k l h z hz
theorem BN (p:Policy) (k:Bool):∀ (l:List Rule) (i:Nat),fx.L1 p k l i=true→(∀ (j:Nat) r,l[j]? = some r→((r.Kind.toList==(nthI p.Kinds (((i+j:Nat):Int))).toList)=true∧0≤r.Think∧r.Think < 1099511627776)∧aG r.Expr true=true)∧k=true
 | [],i,h=>⟨fun j r hj=>by simp at hj,h⟩
 | y::l,i,h=>by
  simp only [fx.L1,Bool.cond_eq_ite] at h
  split at h
  ·cases h
  ·next hc=>
   simp only [Bool.or_eq_true,not_or,decide_eq_true_eq,Bool.not_eq_true',Bool.not_eq_false] at hc
   obtain ⟨h1,h2⟩:=BN p k l (i+1) h
   refine ⟨fun j r hj=>?_,h2⟩
   cases j with
   | zero=>simp at hj;subst hj;exact ⟨⟨hc.1.1.1,by omega,by omega⟩,hc.2⟩
   | succ j=>have:=h1 j r (by simpa using hj);rw [show i+(j+1)=i+1+j from by omega];exact this
theorem KL {p:Policy} (hs:smP p) (h:fQ p=0):cV p=0:=by
 unfold fQ at h
 rw [Bool.cond_eq_ite] at h
 split at h
 ·next hc=>exact absurd h (by simpa using hc)
 ·next hR=>
  rw [Bool.cond_eq_ite] at h
  split at h
  ·omega
  ·next hS=>
   simp only [Bool.not_eq_true',Bool.not_eq_false] at hS
   unfold dL at hR hS
   cases hl:eL p with
   | true=>rw [hl] at hR;simp at hR
   | false=>
    rw [hl] at hR hS
    cases hn:gq p with
    | false=>rw [hn] at hR;simp at hR
    | true=>
     rw [hn] at hR hS
     cases hf:fx p with
     | false=>rw [hf] at hR;simp at hR
     | true=>
      rw [hf] at hS
      simp only [Bool.not_true,cond_false,wC,List.nil_append] at hS
      clear hR h
      unfold eL at hl
      rw [Bool.cond_eq_ite] at hl
      split at hl
      ·cases hl
      ·next h1=>
       simp only [Bool.or_eq_true,not_or,decide_eq_true_eq,Bool.not_eq_true] at h1
       have h2:=Ft _ _ hl
       unfold gq at hn
       rw [Bool.cond_eq_ite] at hn
       split at hn
       ·cases hn
       ·next h3=>
        simp only [Bool.or_eq_true,not_or,Bool.not_eq_true',Bool.not_eq_false] at h3
        obtain ⟨h4,h5⟩:=Do p _ _ hn
        unfold fx at hf
        rw [Bool.cond_eq_ite] at hf
        split at hf
        ·cases hf
        ·next h6=>
         simp only [Bool.or_eq_true,not_or,decide_eq_true_eq,bne_iff_ne,ne_eq,Classical.not_not] at h6
         obtain ⟨h7,h8⟩:=BN p _ _ 0 hf
         unfold gN at hS
         rw [Bool.cond_eq_ite] at hS
         split at hS
         ·cases hS
         ·next h9=>
          simp only [Bool.or_eq_true,not_or,Bool.not_eq_true',Bool.not_eq_false] at h9
          have h10:=H7 p _ 0 hS
          have hexp:∀ x,x∈aB p→(∃ r∈p.Rules,r.Expr=x)∨x=p.Change:=by
           intro x hx
           rw [lE] at hx
           simp only [List.mem_append,List.mem_map,List.mem_singleton] at hx
           exact hx
          rw [xJ,qy,wO,Bj]
          refine ⟨⟨⟨⟨by omega,by omega,by omega⟩,fun x hx=>?_⟩,⟨⟨HN h3.1.1,zk h3.1.2,zk h3.2⟩,fun x hx=>?_⟩,?_⟩,fun j r hj=>?_,yO h9.2⟩
          ·rcases hexp x hx with ⟨r,hr,rfl⟩ | rfl
           ·exact Fs (hs.2.1 r hr) (h2 r hr)
           ·exact Fs hs.2.2.1 h1.2
          ·rcases hexp x hx with ⟨r,hr,rfl⟩ | rfl
           ·exact Ff p.Offices _ (h4 r hr) 1
           ·exact Ff p.Offices _ h5 1
          ·unfold bp bp.K1 bp.K2
           rw [oe,xr,Ac]
           refine ⟨?_,fun j r hj=>?_,fun j x hj z hz=>?_⟩
           ·simp only [Bool.and_eq_true,decide_eq_true_eq,beq_iff_eq,aM]
            exact ⟨⟨by omega,h6.1.1.2⟩,by omega,by omega⟩
           ·have:=(h7 j r hj).1
            simp only [Bool.and_eq_true,decide_eq_true_eq,aM]
            exact ⟨this.1,this.2.1,by omega⟩
           ·have hlen:(aB p).length=p.Rules.length+1:=by rw [lE];simp
            rw [lE] at hj
            rcases Nat.lt_or_ge j p.Rules.length with hjl | hjl
            ·rw [List.getElem?_append_left (by simpa using hjl),List.getElem?_map] at hj
             obtain ⟨r,hr,rfl⟩:=Option.map_eq_some_iff.1 hj
             refine ⟨(Dv true _ (h7 j r hr).2 1 z hz).1,?_⟩
             rw [hlen,wrap64 (by omega)]
             have:decide (((0+j:Nat):Int) < ((p.Rules.length+1:Nat):Int) - 1)=true:=by rw [decide_eq_true_eq];omega
             rw [this];rfl
            ·rw [List.getElem?_append_right (by simpa using hjl)] at hj
             have hj2:=List.mem_singleton.1 (List.mem_of_getElem? hj)
             subst hj2
             obtain ⟨k1,k2⟩:=Dv false _ h8 1 z hz
             refine ⟨k1,?_⟩
             have:(z.x.Kind != 4)=true:=by simpa using k2 rfl
             rw [this,Bool.or_true]
          ·have h11:=h10 j _ (AI p.Offices p.Rules 0 j r hj)
           have hlt:=(List.getElem?_eq_some_iff.1 hj).1
           have hg:=dU (xs:=p.Rules) (z:=((0+j:Nat):Int)) (by omega)
           rw [show (((0+j:Nat):Int)).toNat=j from by omega,hj] at hg
           rw [← Option.some.inj hg] at h11
           dsimp only at h11
           exact ⟨by rw [← h11.1];simp,yO h11.2⟩
def KT (v:Version):Prop:=(0≤v.No∧v.No≤1048576)∧(0≤v.At∧v.At < 1099511627776)∧(0≤v.Known∧v.Known < 1099511627776)∧fQ v.Policy=0
theorem HZ {L:List Version} {y:Version} {l:List Version} {i:Nat} (h:dE.L1 L dE.K1 (y::l) i=0):KT y∧(0 < i→(nthI L ((i:Int) - 1)).No < y.No)∧dE.L1 L dE.K1 l (i+1)=0:=by
 simp only [dE.L1,Bool.cond_eq_ite] at h
 split at h
 ·omega
 ·next hc=>
  simp only [Bool.or_eq_true,not_or,decide_eq_true_eq,Bool.and_eq_true,Bool.not_eq_true',Bool.not_eq_false,bne_iff_ne,ne_eq,Classical.not_not,fd] at hc
  obtain ⟨⟨⟨⟨h1,h2⟩,h3⟩,h4⟩,h5⟩:=hc
  exact ⟨⟨by omega,h3,h4,h5⟩,fun hi=>by omega,h⟩
theorem H0 (L:List Version):∀ (l pre:List Version) (x:Version),L=(pre++[x])++l→dE.L1 L dE.K1 l (pre.length+1)=0→(∀ y∈l,KT y)∧(x::l).Pairwise (fun a b=>a.No < b.No)
 | [],_,_,_,_=>⟨fun _ h=>(List.not_mem_nil h).elim,by simp⟩
 | y::l,pre,x,h,hr=>by
  have hx:nthI L (((pre.length+1:Nat):Int) - 1)=x:=by
   have hb:0≤(((pre.length+1:Nat):Int) - 1)∧(((pre.length+1:Nat):Int) - 1) < (L.length:Int):=by rw [h];simp;omega
   have hg:=dU hb
   rw [show ((((pre.length+1:Nat):Int) - 1)).toNat=pre.length from by omega,h] at hg
   rw [h];simpa using hg.symm
  obtain ⟨h1,h2,h3⟩:=HZ hr
  have h2:=h2 (by omega)
  rw [hx] at h2
  have ih:=H0 L l (pre++[x]) y (by rw [h];simp)
  rw [List.length_append,List.length_cons,List.length_nil,Nat.zero_add] at ih
  obtain ⟨i1,i2⟩:=ih h3
  refine ⟨fun z hz=>?_,List.pairwise_cons.2 ⟨fun z hz=>?_,i2⟩⟩
  ·rcases List.mem_cons.1 hz with rfl | hz
   ·exact h1
   ·exact i1 z hz
  ·rcases List.mem_cons.1 hz with rfl | hz
   ·exact h2
   ·have:=(List.pairwise_cons.1 i2).1 z hz;omega
theorem F3 {l:List Version} (hs:smV l) (h:dE l=0):bF l=0:=by
 rw [oJ]
 unfold dE at h
 rw [Bool.cond_eq_ite] at h
 split at h
 ·omega
 ·next hl=>
  simp only [decide_eq_true_eq] at hl
  have key:(∀ y∈l,KT y)∧l.Pairwise (fun a b=>a.No < b.No):=by
   cases l with
   | nil=>exact ⟨fun _ h=>(List.not_mem_nil h).elim,List.Pairwise.nil⟩
   | cons y l=>
    obtain ⟨h1,_,h3⟩:=HZ h
    obtain ⟨i1,i2⟩:=H0 (y::l) l [] y rfl h3
    refine ⟨fun z hz=>?_,i2⟩
    rcases List.mem_cons.1 hz with rfl | hz
    ·exact h1
    ·exact i1 z hz
  refine ⟨by omega,fun v hv=>?_,key.2⟩
  have:=key.1 v hv
  obtain ⟨h1,h2,h3,h4⟩:=this
  exact ⟨by omega,by omega,h1,KL (hs.2 v hv) h4⟩
theorem xX {α : Type} {R:α→Bool} {no:α→Int} {c:Int} (hc:c≠0):∀ (l:List α) (g:Int),prgChk R no c l g=0↔(∀ y∈l,R y=true∧g < no y)∧l.Pairwise (fun a b=>no a < no b)
 | [],g=>by simp [prgChk]
 | y::l,g=>by
  have ih:=xX hc l (no y) (R:=R) (no:=no)
  simp only [prgChk,Bool.cond_eq_ite,Bool.or_eq_true,Bool.not_eq_true',decide_eq_true_eq]
  split
  ·next h=>simp only [hc,false_iff];rintro ⟨h1,_⟩;have:=h1 y (List.mem_cons_self ..);rcases h with h | h <;> simp_all;omega
  ·next h=>
   rw [ih]
   simp only [not_or,Bool.not_eq_false,Int.not_le] at h
   constructor
   ·rintro ⟨h1,h2⟩
    refine ⟨fun z hz=>?_,List.pairwise_cons.2 ⟨fun z hz=>(h1 z hz).2,h2⟩⟩
    rcases List.mem_cons.1 hz with rfl | hz
    ·exact h
    ·have:=h1 z hz;exact ⟨this.1,by omega⟩
   ·rintro ⟨h1,h2⟩
    obtain ⟨p1,p2⟩:=List.pairwise_cons.1 h2
    exact ⟨fun z hz=>⟨(h1 z (List.mem_cons_of_mem _ hz)).1,p1 z hz⟩,p2⟩
theorem kJ {e:Int} (h:e=0):exOk (kj e):=by subst h;trivial
structure iS (c:bo):Prop where
 chk:eB c.Register=0
 doc:c.doc∈c.Register.Docs
 time:0≤c.at_∧c.at_ < 1099511627776
 know:0≤c.known∧c.known < 1099511627776
theorem iS.good {c:bo} (h:iS c):Ib c.doc:=DA ((me _).1 h.chk).2.2.2.2.2.1 _ h.doc
theorem iS.vers {c:bo} (h:iS c):DI c.Register.Versions:=(oJ _).1 ((me _).1 h.chk).2.2.2.2.1
theorem iS.kind {c:bo} (h:iS c):0≤c.doc.Kind∧c.doc.Kind < 16:=h.good.kind
theorem approvalsP (l:List Approval) (g:Int):bU.L1 bU.K1 l g=prgChk iE (·.No) 280 l g:=by
 induction l generalizing g with
 | nil=>rfl
 | cons y l ih=>simp only [bU.L1,prgChk,ih]
theorem wB {l:List Approval} (h:bU l=0):∀ x∈l,iE x=true:=by
 unfold bU at h
 rw [approvalsP] at h
 cases hd:decide (4096 < (l.length:Int)) with
 | true=>rw [hd] at h;simp at h
 | false=>rw [hd,cond_false,xX (by decide)] at h;exact fun x hx=>(h.1 x hx).1
theorem F9 {x:Approval} (h:iE x=true):(0≤x.Doc∧x.Doc < 4096)∧(0≤x.By∧x.By < 64)∧(0≤x.For∧x.For < 64)∧(0≤x.Office∧x.Office < 32)∧(0≤x.At∧x.At < 1099511627776):=by
 simp only [iE,dh,containsF,gB,List.any_cons,List.any_nil,Bool.or_false,Bool.and_eq_true,Bool.not_eq_true',Bool.or_eq_false_iff,decide_eq_false_iff_not] at h
 omega
theorem budgetsP (l:List Budget) (g:Int):cx.L1 cx.K1 l g=prgChk jf (·.No) 180 l g:=by
 induction l generalizing g with
 | nil=>rfl
 | cons y l ih=>simp only [cx.L1,prgChk,ih]
theorem yC {l:List Budget} (h:cx l=0):∀ x∈l,jf x=true:=by
 unfold cx at h
 rw [budgetsP] at h
 cases hd:decide (4096 < (l.length:Int)) with
 | true=>rw [hd] at h;simp at h
 | false=>rw [hd,cond_false,xX (by decide)] at h;exact fun x hx=>(h.1 x hx).1
theorem CP {x:Budget} (h:jf x=true):x.Period≠0:=by
 simp only [jf,aU,containsF,gV,List.any_cons,List.any_nil,Bool.or_false,Bool.cond_eq_ite] at h
 split at h <;> simp only [Bool.and_eq_true,Bool.not_eq_true',Bool.or_eq_false_iff,decide_eq_false_iff_not] at h <;> omega
theorem CQ {l:List Budget} {kind t known:Int} {x:Budget} (h:x∈bQ l kind t known):x∈l:=by
 have h2:∀ (g:List (gx×Budget)) (s acc:List Budget),x∈bQ.L2 g bQ.K2 s acc→x∈acc∨x∈s:=by
  intro g s
  induction s with
  | nil=>intro acc h;exact .inl h
  | cons y s ih=>
   intro acc h
   simp only [bQ.L2,Bool.cond_eq_ite] at h
   split at h
   ·rcases ih _ h with h | h
    ·rcases List.mem_append.1 h with h | h
     ·exact .inl h
     ·exact .inr (List.mem_cons.2 (.inl (List.mem_singleton.1 h)))
    ·exact .inr (List.mem_cons_of_mem _ h)
   ·rcases ih _ h with h | h
    ·exact .inl h
    ·exact .inr (List.mem_cons_of_mem _ h)
 have h1:∀ (s:List Budget) (g:List (gx×Budget)),x∈bQ.L1 kind t known (bQ.K1 l) s g→x∈l:=by
  intro s
  induction s with
  | nil=>intro g h;rcases h2 g l [] h with h | h;exact (List.not_mem_nil h).elim;exact h
  | cons y s ih=>intro g h;simp only [bQ.L1,Bool.cond_eq_ite] at h;(repeat' split at h) <;> exact ih _ h
 exact h1 _ _ h
theorem EY {l:List Budget} {kind t known:Int} {x:Budget} (h:cx l=0) (hx:x∈bQ l kind t known):x.Period≠0:=CP (yC h x (CQ hx))
theorem CU {l:List Approval} {doc t known:Int} {x:Approval} (h:x∈aI l doc t known):x∈l:=by
 have hc:∀ (s:List Approval),x∈bP.L1 doc t known bP.K1 s→x∈s:=by
  intro s
  induction s with
  | nil=>intro h;exact (List.not_mem_nil h).elim
  | cons y s ih=>
   intro h
   simp only [bP.L1,Bool.cond_eq_ite] at h
   split at h
   ·rcases List.mem_cons.1 h with rfl | h
    ·exact List.mem_cons_self ..
    ·exact List.mem_cons_of_mem _ (ih h)
   ·exact List.mem_cons_of_mem _ (ih h)
 have h2:∀ (g:List (eO×Approval)) (s acc:List Approval),x∈aI.L2 g aI.K2 s acc→x∈acc∨x∈s:=by
  intro g s
  induction s with
  | nil=>intro acc h;exact .inl h
  | cons y s ih=>
   intro acc h
   simp only [aI.L2,Bool.cond_eq_ite] at h
   split at h
   ·rcases ih _ h with h | h
    ·rcases List.mem_append.1 h with h | h
     ·exact .inl h
     ·exact .inr (List.mem_cons.2 (.inl (List.mem_singleton.1 h)))
    ·exact .inr (List.mem_cons_of_mem _ h)
   ·rcases ih _ h with h | h
    ·exact .inl h
    ·exact .inr (List.mem_cons_of_mem _ h)
 have h1:∀ (s:List Approval) (g:List (eO×Approval)),x∈aI.L1 (aI.K1 l doc t known) s g→x∈l:=by
  intro s
  induction s with
  | nil=>
   intro g h
   rcases h2 g (eJ l doc t known) [] h with h | h
   ·exact (List.not_mem_nil h).elim
   ·exact hc _ h
  | cons y s ih=>intro g h;simp only [aI.L1,Bool.cond_eq_ite] at h;split at h <;> exact ih _ h
 exact h1 _ _ h
theorem El {l:List Approval} {doc b th t known:Int} {x:Approval} (h:x∈(bH l doc b th t known).1):x∈l:=by
 unfold bH at h
 simp only [Bool.cond_eq_ite] at h
 split at h
 ·exact (List.not_mem_nil h).elim
 ·split at h
  ·exact (List.not_mem_nil h).elim
  ·exact CU (List.mem_filter.1 h).1
section
variable {c:bo} (h:iS c)
include h
theorem wv {p:Int} (hp:0≤p∧p < 64):(cC c.Register.Interests p c.doc.Parties c.at_ c.known).2.2=0:=
 Ep ((me _).1 h.chk).2.2.1 hp h.good.parties h.time h.know
theorem qW {p:Policy} (hpr:p.Rules.length=p.Kinds.length∧∀ y∈p.Rules,0≤y.Think∧y.Think≤1099511627775) (hk:0≤c.doc.Kind∧c.doc.Kind < (p.Rules.length:Int)):
  (bH c.Register.Approvals c.doc.No c.doc.At (nthI p.Rules c.doc.Kind).Think c.at_ c.known).2=0:=by
 have hth:=hpr.2 _ (mL hk)
 have h1:=h.good.no
 have h2:=h.good.at_
 have h3:=h.time
 have h4:=h.know
 have e1:dh 4095 [c.doc.No]=true:=by
  simp only [dh,containsF,gB,List.any_cons,List.any_nil,Bool.or_false,Bool.not_eq_true',Bool.or_eq_false_iff,decide_eq_false_iff_not];omega
 have e2:dh 1099511627775 [c.doc.At,(nthI p.Rules c.doc.Kind).Think,c.at_,c.known]=true:=by
  simp only [dh,containsF,gB,List.any_cons,List.any_nil,Bool.or_false,Bool.not_eq_true',Bool.or_eq_false_iff,decide_eq_false_iff_not];omega
 unfold bH
 rw [((me _).1 h.chk).2.2.2.2.2.2,e1,e2];rfl
theorem sK {d b th t known:Int} {x:Approval} (hx:x∈(bH c.Register.Approvals d b th t known).1):(0≤x.Doc∧x.Doc < 4096)∧(0≤x.By∧x.By < 64)∧(0≤x.For∧x.For < 64)∧(0≤x.Office∧x.Office < 32)∧(0≤x.At∧x.At < 1099511627776):=
 F9 (wB ((me _).1 h.chk).2.2.2.2.2.2 x (El hx))
theorem yA {d b th t known:Int} {x:Approval} (hx:x∈(bH c.Register.Approvals d b th t known).1):0≤x.For∧x.For < 64:=(sK h hx).2.2.1
theorem Cb {d b th t known:Int} {x:Approval} (hx:x∈(bH c.Register.Approvals d b th t known).1):0≤x.By∧x.By < 64:=(sK h hx).2.1
theorem qV {d b th t known:Int} {x:Approval} (hx:x∈(bH c.Register.Approvals d b th t known).1):(fe c.Register.Appoints x.Office x.For c.at_ c.known).2.2.2=0:=by
 obtain ⟨_,_,h2,h3,_⟩:=sK h hx
 have h4:=h.time
 have h5:=h.know
 have e1:eM x.Office=true:=by simp only [eM,dQ,Bool.and_eq_true,decide_eq_true_eq];omega
 have e2:fy x.For=true:=by simp only [fy,dQ,Bool.and_eq_true,decide_eq_true_eq];omega
 have e3:∀ z:Int,0≤z∧z < 1099511627776→di z=true:=fun z hz=>by simp only [di,dQ,Bool.and_eq_true,decide_eq_true_eq];omega
 unfold fe
 rw [((me _).1 h.chk).1,e1,e2,e3 _ h4,e3 _ h5]
 simp only [bne_self_eq_false,cond_false,Bool.not_true,Bool.or_false]
 cases (!(mhas (dk c.Register.Appoints c.at_ c.known) (OSeat.mk x.Office x.For))||(mgetD (dk c.Register.Appoints c.at_ c.known) (OSeat.mk x.Office x.For) (Appoint.mk 0 0 0 0 0 0 false)).Gone) <;> rfl
omit h in
theorem F4 {l:List Deputy} {a o k v t n:Int} {g:List (Int×Int)}:(aE.K1 l a o k v t n g).2.2=0:=by
 unfold aE.K1
 cases (!(mhas g a)) with
 | true=>rfl
 | false=>
  rw [cond_false]
  have:∀ (s:List Nat) (i:Nat) (p:List Int) (q:Int),(aE.L4 l a o k v t n g aE.K4 s i p q).2.2=0:=by
   intro s
   induction s with
   | nil=>intro i p q;rfl
   | cons y s ih=>
    intro i p q
    simp only [aE.L4]
    have:∀ (L:List Deputy) (p:List Int) (q:Int),(aE.L6 a g i (fun zg6_16 zg6_31=>aE.L4 l a o k v t n g aE.K4 s (i+1) zg6_16 zg6_31) L p q).2.2=0:=by
     intro L
     induction L with
     | nil=>intro p q;exact ih _ _ _
     | cons z L ihL=>intro p q;simp only [aE.L6,Bool.cond_eq_ite];split;exact ih _ _ _;exact ihL _ _
    exact this _ _ _
  exact this _ _ _ _
omit h in
theorem IK {l:List Deputy} {a b o k v t n:Int} (h0:kc l a b (cE.mk o k v t n)=0):(aE l a b o k v t n).2.2=0:=by
 unfold aE
 rw [h0]
 simp only [bne_self_eq_false,cond_false]
 have:∀ (s:List Nat) (i:Nat) (g:List (Int×Int)),(aE.L1 l o k v t n (aE.K1 l a o k v t n) s i g).2.2=0:=by
  intro s
  induction s with
  | nil=>intro i g;exact F4
  | cons y s ih=>
   intro i g
   simp only [aE.L1]
   have:∀ (L:List Deputy) (g:List (Int×Int)),(aE.L3 i (fun zg3_b2_0=>aE.L1 l o k v t n (aE.K1 l a o k v t n) s (i+1) zg3_b2_0) L g).2.2=0:=by
    intro L
    induction L with
    | nil=>intro g;exact ih _ _
    | cons z L ihL=>intro g;simp only [aE.L3,Bool.cond_eq_ite];split <;> exact ihL _
   exact this _ _
 exact this _ _ _
theorem qX {d b th t known:Int} {x:Approval} (hx:x∈(bH c.Register.Approvals d b th t known).1):
  (aE c.Register.Deputies x.For x.By x.Office c.doc.Kind c.doc.Value c.at_ c.known).2.2=0:=by
 obtain ⟨_,h1,h2,h3,_⟩:=sK h hx
 have h4:=h.time
 have h5:=h.know
 have h6:=h.kind
 have h7:=h.good.value
 refine IK ?_
 have e2:∀ z:Int,0≤z∧z < 64→fB z=true:=fun z hz=>by simp only [fB,cQ,Bool.and_eq_true,decide_eq_true_eq];omega
 have e3:∀ z:Int,0≤z∧z < 1099511627776→fV z=true:=fun z hz=>by simp only [fV,cQ,Bool.and_eq_true,decide_eq_true_eq];omega
 have e4:cQ x.Office 0 31=true:=by simp only [cQ,Bool.and_eq_true,decide_eq_true_eq];omega
 have e5:cQ c.doc.Kind 0 15=true:=by simp only [cQ,Bool.and_eq_true,decide_eq_true_eq];omega
 have e6:cQ c.doc.Value 0 1099511627776=true:=by simp only [cQ,Bool.and_eq_true,decide_eq_true_eq];omega
 unfold kc
 rw [((me _).1 h.chk).2.1,e2 _ h1,e2 _ h2,e3 _ h4,e3 _ h5,e4,e5,e6];rfl
end
theorem wP {l:List Document} {signed:List Int} {b:Bool} (h:((!de l signed)||b)=false):signed.length=l.length:=by
 simp only [de,Bool.or_eq_false_iff,Bool.not_eq_false',Bool.and_eq_true,beq_iff_eq] at h
 have:=h.1.1
 omega
def playSame (P Q:eW):Prop:=Q.shelf=P.shelf∧Q.signed=P.signed∧Q.done.length=P.done.length∧Q.lacks.length=P.lacks.length
theorem playSame.refl (P:eW):playSame P P:=⟨rfl,rfl,rfl,rfl⟩
theorem playSame.trans {P Q R:eW} (h:playSame P Q) (k:playSame Q R):playSame P R:=⟨k.1.trans h.1,k.2.1.trans h.2.1,k.2.2.1.trans h.2.2.1,k.2.2.2.trans h.2.2.2⟩
theorem nr {β : Type} (f:eW→β→eW) (hf:∀ P x,playSame P (f P x)):∀ (l:List β) (P:eW),playSame P (l.foldl f P)
 | [],P=>.refl P
 | x::l,P=>(hf P x).trans (nr f hf l _)
theorem Cv (sg:List Int) (i:Int) (P:eW) (no:Int):playSame P (playLack sg i P no):=by
 unfold playLack
 cases (cD P (mgetD P.shelf.at_ no 0) (nthI sg i)).1 != 0
 ·exact .refl P
 ·exact ⟨rfl,rfl,rfl,by simp⟩
theorem DX (P:eW) (i:Int):playSame P (playMid P i):=by
 refine playSame.trans (Q:={ P with lacks:=P.lacks.set i.toNat (-1) }) ⟨rfl,rfl,rfl,by simp⟩ ?_
 exact nr _ (fun Q x=>Cv _ _ _ _) _ _
theorem Cw (P:eW) (i:Int):playSame P (playDone P i):=⟨rfl,rfl,by simp [playDone],rfl⟩
theorem zE (d:Document) (P:eW) (no:Int):playSame P (playRevoke d P no):=⟨rfl,rfl,rfl,rfl⟩
theorem Cu (P:eW) (i:Int):playSame P (playStep P i):=by
 have h:=(DX P i).trans (Cw (playMid P i) i)
 unfold playStep
 cases decide (nthI (playMid P i).lacks i < 0)
 ·exact h
 ·exact h.trans (nr _ (fun Q x=>zE _ _ _) _ _)
theorem yS (l:List Document) (signed:List Int) (t:Int):playSame (playP l signed) (co l signed t):=nr _ Cu _ _
theorem sA (l:List Document) (signed:List Int) (t:Int):(co l signed t).shelf=aC l:=(yS l signed t).1
theorem qM (l:List Document) (signed:List Int) (t:Int):(co l signed t).shelf.docs=l:=by
 rw [sA]
 have:∀ (s:List Document) (i:Nat) (g:List (Int×Int)),(aC.L1 (aC.K1 l) s i g).docs=l:=by
  intro s
  induction s with
  | nil=>intro i g;rfl
  | cons y s ih=>intro i g;exact ih _ _
 exact this _ _ _
theorem yT (l:List Document) (signed:List Int) (t:Int):(co l signed t).done.length=(co l signed t).shelf.docs.length∧(co l signed t).lacks.length=(co l signed t).shelf.docs.length:=by
 have h:=yS l signed t
 rw [qM]
 exact ⟨h.2.2.1.trans (by simp [playP]),h.2.2.2.trans (by simp [playP])⟩
theorem Dj {l:List Document} {signed:List Int} {t:Int} {no:Int} (h:(!(mhas (co l signed t).shelf.at_ no))=false):
  0≤mgetD (co l signed t).shelf.at_ no 0∧mgetD (co l signed t).shelf.at_ no 0 < ((co l signed t).shelf.docs.length:Int):=by
 rw [qM]
 rw [sA] at h ⊢
 have hl:0 < l.length:=by
  cases l with
  | nil=>exact Bool.noConfusion (show true=false from h)
  | cons=>simp
 have key:∀ (s:List Document) (i:Nat) (g:List (Int×Int)),i+s.length=l.length→(∀ p∈g,0≤p.2∧p.2 < (l.length:Int))→∀ p∈(aC.L1 (aC.K1 l) s i g).at_,0≤p.2∧p.2 < (l.length:Int):=by
  intro s
  induction s with
  | nil=>intro i g _ hg;exact hg
  | cons y s ih=>
   intro i g hi hg
   simp only [List.length_cons] at hi
   exact ih (i+1) _ (by omega) (rQ (P:=fun x:Int=>0≤x∧x < (l.length:Int)) _ hg (by omega))
 exact uQ (P:=fun x:Int=>0≤x∧x < (l.length:Int)) no (key l 0 [] (by simp) (fun _ h=>(List.not_mem_nil h).elim)) (by omega)
structure Np (q q':aZ):Prop where
 value:q'.value=q.value
 holders:q'.holders=q.holders
 who:∀ l∈q.holders,∀ y∈l,y.Person∈q.who→y.Person∈q'.who
 wt:∀ l∈q.holders,∀ y∈l,1≤y.Weight∧y.Weight≤64
 len:∀ l∈q.holders,l.length≤2000000
theorem DP (l:List Interest) (a b:Int):∃ p:Interest→Bool,cT l a b=l.filter p:=by
 have h1:∀ v (l:List Interest),bT.L1 v [] l=l.filter fun y=>(!y.Gone)&&decide (mgetD v (dS.mk y.Person y.Party y.Of) (Interest.mk 0 0 0 0 0 false false)=y):=by
  intro v l
  induction l with
  | nil=>rfl
  | cons y l ih=>
   simp only [bT.L1,List.filter_cons,ih]
   cases ((!y.Gone)&&decide (mgetD v (dS.mk y.Person y.Party y.Of) (Interest.mk 0 0 0 0 0 false false)=y)) <;> rfl
 have h2:∀ (k:List (dS×Interest)→List Interest) (l:List Interest) m,∃ m',cT.L1 a b k l m=k m':=by
  intro k l
  induction l with
  | nil=>exact fun m=>⟨m,rfl⟩
  | cons y l ih=>
   intro m
   simp only [cT.L1,Bool.cond_eq_ite]
   split
   ·exact ih _
   ·split
    ·exact ih _
    ·exact ih _
 obtain ⟨m',e⟩:=h2 (cT.K1 l) l []
 exact ⟨_,by unfold cT;rw [e];exact h1 m' l⟩
theorem EK (l:List Interest) (a b:Int):(cT l a b).length≤l.length:=by
 obtain ⟨p,e⟩:=DP l a b
 rw [e];exact List.length_filter_le _ _
theorem Bl {α : Type} {k:Int} {v:α}:∀ {m:List (Int×α)},k∉m.map (·.1)→(mput m k v).length=m.length+1∧∀ p∈mput m k v,p=(k,v)∨p∈m
 | [],_=>by simp [mput]
 | (k',v')::m,hk=>by
  simp only [List.map_cons,List.mem_cons,not_or] at hk
  obtain ⟨h1,h2⟩:=Bl (v:=v) hk.2
  simp only [mput,hk.1,if_false,List.length_cons,h1,List.mem_cons,true_and]
  rintro p (rfl | hp)
  ·exact .inr (.inl rfl)
  ·rcases h2 p hp with h | h
   ·exact .inl h
   ·exact .inr (.inr h)
theorem D5 {st:List Interest} {m:List (Int×Bool)} {q:List gD} (hg:se st m q) {k:Int} (h:mgetD m k false=false):k∉m.map (·.1):=by
 intro hk
 obtain ⟨⟨k',v⟩,hp,rfl⟩:=List.mem_map.1 hk
 have:∀ {m:List (Int×Bool)},(∀ p∈m,p.2=true)→k'∈m.map (·.1)→mgetD m k' false=true:=by
  intro m
  induction m with
  | nil=>intro _ h;simp at h
  | cons p m ih=>
   intro ha hm
   obtain ⟨a,b⟩:=p
   by_cases e:k'=a
   ·have:=ha (a,b) (List.mem_cons_self ..)
    simp only at this
    simp [mgetD,mget?,e,this]
   ·simp only [List.map_cons,List.mem_cons,e,false_or] at hm
    have:=ih (fun p hp=>ha p (List.mem_cons_of_mem _ hp)) hm
    simpa [mgetD,mget?,e] using this
 rw [this (fun p hp=>(hg.1 p hp).1) hk] at h
 cases h
theorem qY {st:List Interest} {m:List (Int×Bool)} {q:List gD} {w:gD} (hg:se st m q) (hw:w.to∈st.map (·.Party)) (h8:w.path.length≤8):se st (conPut w m q).1 (conPut w m q).2:=by
 unfold conPut
 cases h:mgetD m w.to false with
 | true=>exact hg
 | false=>
  obtain ⟨h1,h2⟩:=Bl (v:=true) (D5 hg h)
  refine ⟨fun p hp=>?_,?_,fun w' hw'=>?_⟩
  ·rcases h2 p hp with rfl | hp
   ·exact ⟨rfl,hw⟩
   ·exact hg.1 p hp
  ·show (q++[w]).length≤(mput m w.to true).length
   rw [h1,List.length_append];have:=hg.2.1;simp;omega
  ·rcases List.mem_append.1 (show w'∈q++[w] from hw') with hw' | hw'
   ·exact hg.2.2 w' hw'
   ·rw [List.mem_singleton.1 hw'];exact h8
theorem uD {st:List Interest} {m:List (Int×Bool)} {q:List gD} {k:Int} {cap:Nat} (hg:se st m q) (hn:(m.map (·.1)).Nodup) (hk:k∈st.map (·.Party)) (hc:st.length≤cap) (h:mgetD m k false=false):q.length < cap:=by
 have h1:=D5 hg h
 have h2:(k::m.map (·.1)).length≤(st.map (·.Party)).length:=yd (List.nodup_cons.2 ⟨h1,hn⟩) (fun x hx=>by
  rcases List.mem_cons.1 hx with rfl | hx
  ·exact hk
  ·obtain ⟨p,hp,rfl⟩:=List.mem_map.1 hx;exact (hg.1 p hp).2)
 simp only [List.length_cons,List.length_map] at h2
 have:=hg.2.1
 omega
theorem Kc {st:List Interest} {m:List (Int×Bool)} {q:List gD} (hg:se st m q) (hn:(m.map (·.1)).Nodup):m.length≤st.length:=by
 have:=yd (b:=st.map (·.Party)) hn (fun x hx=>by obtain ⟨p,hp,rfl⟩:=List.mem_map.1 hx;exact (hg.1 p hp).2)
 simpa using this
theorem Em {m:List (Int×Bool)} {q:List gD} {w:gD} (hn:(m.map (·.1)).Nodup):((conPut w m q).1.map (·.1)).Nodup:=by
 unfold conPut
 cases mgetD m w.to false with
 | true=>exact hn
 | false=>exact mX _ _ hn
theorem FX {st:List Interest} {m:List (Int×Bool)} {q:List gD} {w:gD} {N:Nat} (hg:se st m q) (hn:(m.map (·.1)).Nodup) (hw:w.to∈st.map (·.Party)) (hN:st.length≤N):
  (conPut w m q).2.length+(N - (conPut w m q).1.length)≤q.length+(N - m.length):=by
 unfold conPut
 cases h:mgetD m w.to false with
 | true=>simp
 | false=>
  obtain ⟨h1,_⟩:=Bl (v:=true) (D5 hg h)
  have h2:se st (mput m w.to true) []:=by
   have:=qY (w:=⟨[],w.to⟩) (q:=[]) (st:=st) (m:=m) ⟨hg.1,Nat.zero_le _,fun _ h=>(List.not_mem_nil h).elim⟩ hw (by simp)
   simp only [conPut,h,cond_false] at this
   exact ⟨this.1,Nat.zero_le _,fun _ h=>(List.not_mem_nil h).elim⟩
  have h3:=Kc h2 (mX w.to true hn)
  show (q++[w]).length+(N - (mput m w.to true).length)≤_
  rw [h1] at h3
  rw [h1,List.length_append]
  simp;omega
theorem wh {α : Type} (m:List (Int×α)) (k j:Int) (v z:α):mgetD (mput m k v) j z=if j=k then v else mgetD m j z:=by
 induction m with
 | nil=>by_cases h:j=k <;> simp [mput,mgetD,mget?,h]
 | cons p m ih=>
  obtain ⟨a,b⟩:=p
  by_cases h:k=a
  ·subst h
   by_cases h2:j=k <;> simp [mput,mgetD,mget?,h2]
  ·by_cases h2:j=a
   ·subst h2
    have:¬ j=k:=fun e=>h e.symm
    simp [mput,h,mgetD,mget?,this]
   ·simp only [mgetD] at ih ⊢
    simp only [mput,h,if_false,mget?,h2]
    exact ih
theorem Ia.put {st:List Interest} {f:List (Int×List Interest)} (hf:Ia st f) {k:Int} {x:Interest} (hx:x∈st):Ia st (mput f k (mgetD f k []++[x])):=by
 intro j y hy
 rw [wh] at hy
 split at hy
 ·rcases List.mem_append.1 hy with hy | hy
  ·exact hf k y hy
  ·rw [List.mem_singleton.1 hy];exact hx
 ·exact hf j y hy
theorem uO {α : Type} (A B:List α) (x y:α):(A++x::y::B).Perm (y::x::(A++B)):=
 List.perm_middle.trans ((List.Perm.cons x List.perm_middle).trans (List.Perm.swap y x _))
theorem xH {st:List Interest} {path:List Int} {N:Nat} (hN:st.length≤N) (h8:path.length+1≤8):∀ {xs:List Interest} {m:List (Int×Bool)} {q:List gD},(∀ x∈xs,x∈st)→se st m q→(m.map (·.1)).Nodup →
  (conStep path xs m q).2.length+(N - (conStep path xs m q).1.length)≤q.length+(N - m.length)
 | [],m,q,_,_,_=>Nat.le_refl _
 | x::xs,m,q,hx,hg,hn=>by
  have hp:(gD.mk (path++[x.No]) x.Party).to∈st.map (·.Party):=List.mem_map_of_mem (hx x (List.mem_cons_self ..))
  have h1:=FX (w:=⟨path++[x.No],x.Party⟩) hg hn hp hN
  have h2:=xH (path:=path) hN h8 (xs:=xs) (fun y hy=>hx y (List.mem_cons_of_mem _ hy)) (qY hg hp (by simpa using h8)) (Em hn)
  simp only [conStep]
  exact Nat.le_trans h2 h1
theorem wX:∀ {a b:List Int},a.Pairwise (· < ·)→b.Pairwise (· < ·)→(∀ x∈a,x∈b)→a.Sublist b
 | [],b,_,_,_=>List.nil_sublist _
 | x::a,[],_,_,h=>absurd (h x (List.mem_cons_self ..)) List.not_mem_nil
 | x::a,y::b,ha,hb,h=>by
  obtain ⟨a1,a2⟩:=List.pairwise_cons.1 ha
  obtain ⟨b1,b2⟩:=List.pairwise_cons.1 hb
  by_cases e:x=y
  ·subst e
   refine (wX a2 b2 fun z hz=>?_).cons_cons _
   rcases List.mem_cons.1 (h z (List.mem_cons_of_mem _ hz)) with g | g
   ·have:=a1 z hz;omega
   ·exact g
  ·refine (wX ha b2 fun z hz=>?_).cons _
   rcases List.mem_cons.1 (h z hz) with g | g
   ·have hy:y < x:=by
     rcases List.mem_cons.1 (h x (List.mem_cons_self ..)) with g2 | g2
     ·exact absurd g2 e
     ·exact b1 x g2
    rcases List.mem_cons.1 hz with g3 | g3
    ·omega
    ·have:=a1 z g3;omega
   ·exact g
def lastV (t known:Int) (acc:Option Version) (y:Version):Option Version:=
 bif decide (y.At≤t)&&decide (y.Known≤known) then (match acc with
  | none=>some y
  | some a=>bif decide (a.At≤y.At) then some y else some a) else acc
def FV (t known:Int) (l:List Version):Option Version:=l.foldl (lastV t known) none
structure Ns (f known:Int) (pre:List Version) (b:Int) (m:List (Int×Version)):Prop where
 at_:∀ a,FV f known pre=some a→b=a.At
 no:FV f known pre=none→b=-1
 beg:mget? m f=FV f known pre
 has:∀ t,f < t→(t∈m.map (·.1)↔∃ y∈pre,y.At=t∧y.Known≤known)
 get:∀ t,f < t→t∈m.map (·.1)→∃ v,mget? m t=some v∧FV t known pre=some v∧v.At=t
 low:∀ t,t∈m.map (·.1)→f≤t
theorem Lo (s:ByteArray):gh s=dG s:=by
 rw [Bool.eq_iff_iff]
 refine ⟨HA,fun h=>?_⟩
 unfold dG at h
 unfold gh
 rw [xI,D4] at h
 rw [Bool.cond_eq_ite] at h ⊢
 split at h
 ·cases h
 ·next hc=>
  simp only [Bool.or_eq_true,not_or,decide_eq_true_eq,Bool.not_eq_true] at hc
  obtain ⟨⟨h1,h2⟩,h3⟩:=hc
  have hs:¬ ((s.size:Int) < 1):=fun hlt=>by
   have h9:=sk s
   have:s.toList=[]:=List.length_eq_zero_iff.1 (by omega)
   rw [this] at h1
   have e2:(⟨#[]⟩:ByteArray).toList=[]:=by
    have:=sk (⟨#[]⟩:ByteArray)
    exact List.length_eq_zero_iff.1 this
   rw [e2] at h1;simp at h1
  rw [if_neg]
  ·exact h
  ·simp only [Bool.or_eq_true,not_or,decide_eq_true_eq]
   exact ⟨⟨hs,h2⟩,by simpa using h3⟩
theorem HO (s:ByteArray):ll s=dC s:=by
 rw [Du];unfold ll;rw [Lo]
theorem zl (l:List ByteArray):ep l=bA l dC:=by
 have key:∀ (L l:List ByteArray) (i:Nat),ep.L1 L ep.K1 l i=bA.L1 L dC bA.K1 l i:=by
  intro L l
  induction l with
  | nil=>intros;rfl
  | cons y l ih=>intro i;simp only [ep.L1,bA.L1,HO,rindex,ih]
 exact key l l 0
theorem Bk (off:List ByteArray) (x:Expr):(∀ z∈bq x 1,((!(df z.x))||cR off z.x.Name)=true)→bM off x=true:=by
 refine Expr.ind (P:=fun x=>(∀ z∈bq x 1,((!(df z.x))||cR off z.x.Name)=true)→bM off x=true) ?_ x
 intro x ih h
 have h:=(od (fun y=>((!(df y))||cR off y.Name)=true) x 1).1 h
 rw [Fg]
 unfold bM.F
 have hx:=h.1
 unfold df cR at hx
 rw [Bool.cond_eq_ite,if_neg]
 ·have:∀ l:List Expr,(∀ y∈l,bM off y=true)→bM.L1 bM off bM.K1 l=true:=by
   intro l
   induction l with
   | nil=>intro _;rfl
   | cons y l ih2=>
    intro hl
    simp only [bM.L1,hl y (List.mem_cons_self ..),Bool.not_true,cond_false]
    exact ih2 fun z hz=>hl z (List.mem_cons_of_mem _ hz)
  exact this x.L fun y hy=>ih y hy (h.2 y hy)
 ·rw [rindex]
  simp only [Bool.and_eq_true,decide_eq_true_eq,not_and]
  intro hk hi
  rw [hk] at hx
  simp only [Bool.not_true,Bool.false_or,decide_eq_true_eq] at hx
  omega
theorem BO {x:Expr} {u:Bool} (h:(aM x.Kind 1 4&&kindsP x.Kind x)=true) (h4:u=false→x.Kind≠4):aG.K1 x u=true:=by
 simp only [Bool.and_eq_true] at h
 have hb:1≤x.Kind∧x.Kind≤4:=by have:=h.1;simpa [aM] using this
 have hc:x.Kind=1∨x.Kind=2∨x.Kind=3∨x.Kind=4:=by omega
 have h2:=h.2
 unfold aG.K1
 rcases hc with e | e | e | e
 ·rw [e] at h2 ⊢
  have h2:jb x=true:=h2
  unfold jb at h2
  rw [show ((1:Int)==1)=true from rfl,cond_true];exact h2
 ·rw [e] at h2 ⊢
  have h2:ja x=true:=h2
  unfold ja aM at h2
  rw [show ((2:Int)==1)=false from rfl,show ((2:Int)==2)=true from rfl,cond_false,cond_true];exact h2
 ·rw [e] at h2 ⊢
  have h2:i9 x=true:=h2
  unfold i9 aM at h2
  rw [show ((3:Int)==1)=false from rfl,show ((3:Int)==2)=false from rfl,show ((3:Int)==3)=true from rfl,cond_false,cond_false,cond_true]
  simp only [Bool.and_eq_true] at h2 ⊢
  exact ⟨⟨⟨⟨h2.1.1,h2.1.2.1⟩,h2.1.2.2⟩,h2.2.1⟩,h2.2.2⟩
 ·have hu:u=true:=by
   cases u with
   | true=>rfl
   | false=>exact absurd e (h4 rfl)
  subst hu
  rw [e] at h2 ⊢
  have h2:iF x=true:=h2
  unfold iF aM at h2
  rw [show ((4:Int)==1)=false from rfl,show ((4:Int)==2)=false from rfl,show ((4:Int)==3)=false from rfl,show ((4:Int)==4)=true from rfl,cond_false,cond_false,cond_false,cond_true]
  simp only [Bool.and_eq_true] at h2 ⊢
  exact ⟨⟨⟨⟨trivial,h2.1.1⟩,h2.1.2⟩,h2.2.1⟩,h2.2.2⟩
theorem zh (u:Bool) (x:Expr):(∀ z∈bq x 1,(aM z.x.Kind 1 4&&kindsP z.x.Kind z.x)=true∧(u=false→z.x.Kind≠4))→aG x u=true:=by
 refine Expr.ind (P:=fun x=>(∀ z∈bq x 1,(aM z.x.Kind 1 4&&kindsP z.x.Kind z.x)=true∧(u=false→z.x.Kind≠4))→aG x u=true) ?_ x
 intro x ih h
 have h:=(od (fun y=>(aM y.Kind 1 4&&kindsP y.Kind y)=true∧(u=false→y.Kind≠4)) x 1).1 h
 rw [Dw]
 unfold aG.F
 have:∀ (k:Bool) (l:List Expr),(∀ y∈l,aG y u=true)→aG.L1 aG u k l=k:=by
  intro k l
  induction l with
  | nil=>intro _;rfl
  | cons y l ih2=>
   intro hl
   simp only [aG.L1,hl y (List.mem_cons_self ..),Bool.not_true,cond_false]
   exact ih2 fun z hz=>hl z (List.mem_cons_of_mem _ hz)
 rw [this _ x.L fun y hy=>ih y hy (h.2 y hy)]
 exact BO h.1.1 h.1.2
theorem IH (l:List Expr):∀ a:Int,bj.L1 bj (fun g=>g) l a=a∨∃ y∈l,bj.L1 bj (fun g=>g) l a=bj y:=by
 induction l with
 | nil=>intro a;exact .inl rfl
 | cons y l ih=>
  intro a
  simp only [bj.L1]
  rcases ih (max a (bj y)) with h | ⟨z,hz,h⟩
  ·rw [h]
   rcases Int.le_total a (bj y) with q | q
   ·exact .inr ⟨y,List.mem_cons_self ..,by omega⟩
   ·exact .inl (by omega)
  ·exact .inr ⟨z,List.mem_cons_of_mem _ hz,h⟩
theorem Ca (x:Expr):x.dep≤1500000→∀ d:Int,∃ z∈bq x d,z.depth=d+bj x - 1:=by
 refine Expr.ind (P:=fun x=>x.dep≤1500000→∀ d:Int,∃ z∈bq x d,z.depth=d+bj x - 1) ?_ x
 intro x ih hx d
 have hd:=(FU x hx).2
 rw [mb]
 rcases IH x.L 0 with h | ⟨y,hy,h⟩
 ·exact ⟨⟨x,d⟩,List.mem_cons_self ..,by rw [hd,h];show d=d+(0+1) - 1;omega⟩
 ·have hlt:=Expr.iU hy
  obtain ⟨z,hz,e⟩:=ih y hy (by omega) (d+1)
  exact ⟨z,List.mem_cons_of_mem _ (List.mem_flatMap.2 ⟨y,hy,hz⟩),by rw [e,hd,h];omega⟩
theorem GA {x:Expr} (hx:x.dep≤1500000) (h1:(bq x 1).length≤256) (h2:∀ z∈bq x 1,z.depth≤16):iZ x=false:=by
 unfold iZ
 rw [DG x 256 (by decide) (by decide)]
 obtain ⟨z,hz,e⟩:=Ca x hx 1
 have:=h2 z hz
 have hc:cnt x≤256:=h1
 simp only [Bool.or_eq_false_iff,decide_eq_false_iff_not]
 exact ⟨by omega,by omega⟩
theorem In (off:List ByteArray) (x:Expr):(∀ z∈bq x 1,z.x.No=rno off z.x)→bh (ae off x) x=true:=by
 refine Expr.ind (P:=fun x=>(∀ z∈bq x 1,z.x.No=rno off z.x)→bh (ae off x) x=true) ?_ x
 intro x ih h
 have h:=(od (fun y=>y.No=rno off y) x 1).1 h
 rw [Ho,yP]
 unfold bh.F
 have e:(((((x.Kind != x.Kind)||(x.N != x.N))||(rno off x != x.No))||(!(x.Name.toList==x.Name.toList)))||(((x.L.map (ae off)).length:Int) != (x.L.length:Int)))=false:=by simp [h.1]
 show (bif (((((x.Kind != x.Kind)||(x.N != x.N))||(rno off x != x.No))||(!(x.Name.toList==x.Name.toList)))||(((x.L.map (ae off)).length:Int) != (x.L.length:Int))) then false else bh.L1 bh x bh.K1 (x.L.map (ae off)) 0)=true
 rw [e,cond_false]
 have:∀ (l pre:List Expr),x.L=pre++l→bh.L1 bh x bh.K1 (l.map (ae off)) pre.length=true:=by
  intro l
  induction l with
  | nil=>intro _ _;rfl
  | cons y l ih2=>
   intro pre hp
   have hy:nthI x.L (pre.length:Int)=y:=ns (by rw [hp];simp)
   have hm:y∈x.L:=by rw [hp];simp
   have:=ih2 (pre++[y]) (by rw [hp];simp)
   rw [List.length_append,List.length_cons,List.length_nil,Nat.zero_add] at this
   simp only [List.map_cons,bh.L1,hy,ih y hm (h.2 y hm),Bool.not_true,cond_false]
   exact this
 exact this x.L [] rfl
theorem AD (l:List ByteArray):ef l l=true:=by
 have:∀ (s pre:List ByteArray),l=pre++s→ef.L1 l ef.K1 s pre.length=true:=by
  intro s
  induction s with
  | nil=>intro _ _;rfl
  | cons y s ih=>
   intro pre hp
   have hy:nthI l (pre.length:Int)=y:=ns (by rw [hp];simp)
   have:=ih (pre++[y]) (by rw [hp];simp)
   rw [List.length_append,List.length_cons,List.length_nil,Nat.zero_add] at this
   simp only [ef.L1,hy,beq_self_eq_true,Bool.not_true,cond_false]
   exact this
 unfold ef
 rw [bne_self_eq_false,cond_false]
 exact this l [] rfl
theorem AH (off:List ByteArray):∀ (l:List Rule) (i:Nat),(rrules off l i).length=l.length
 | [],_=>rfl
 | y::l,i=>by simp only [rrules,List.length_cons,AH off l]
theorem GP {p:Policy} (hs:smP p) (h:cV p=0):fQ p=0:=by
 obtain ⟨h1,h2,h3⟩:=(xJ p).1 h
 obtain ⟨s1,s2,s3⟩:=(qy p).1 h1
 obtain ⟨⟨a1,a2,a3⟩,a4⟩:=(wO p).1 s1
 obtain ⟨⟨n1,n2,n3⟩,n4⟩:=(Bj p).1 s2
 unfold bp bp.K1 bp.K2 at s3
 rw [oe,xr,Ac] at s3
 obtain ⟨f1,f2,f3⟩:=s3
 simp only [Bool.and_eq_true,decide_eq_true_eq,beq_iff_eq,aM] at f1
 have hlen:(aB p).length=p.Rules.length+1:=by rw [lE];simp
 have hrule:∀ r∈p.Rules,r.Expr∈aB p:=fun r hr=>BT hr
 have hch:p.Change∈aB p:=by rw [lE];simp
 have hdep:∀ x∈aB p,x.dep≤1500000:=fun x hx=>by
  rw [lE] at hx
  simp only [List.mem_append,List.mem_map,List.mem_singleton] at hx
  rcases hx with ⟨r,hr,rfl⟩ | rfl
  ·exact hs.2.1 r hr
  ·exact hs.2.2.1
 have hlarge:∀ x∈aB p,iZ x=false:=fun x hx=>GA (hdep x hx) (a4 x hx).1 (a4 x hx).2
 have hT:eL p=false:=by
  unfold eL
  rw [Bool.cond_eq_ite,if_neg]
  ·have:∀ l:List Rule,(∀ r∈l,iZ r.Expr=false)→eL.L1 eL.K1 l=false:=by
    intro l
    induction l with
    | nil=>intro _;rfl
    | cons y l ih=>
     intro hl
     simp only [eL.L1,hl y (List.mem_cons_self ..),cond_false]
     exact ih fun z hz=>hl z (List.mem_cons_of_mem _ hz)
   exact this p.Rules fun r hr=>hlarge _ (hrule r hr)
  ·simp only [Bool.or_eq_true,decide_eq_true_eq,not_or,hlarge _ hch,Bool.false_eq_true,not_false_eq_true,and_true]
   omega
 have hN:gq p=true:=by
  unfold gq
  rw [HO,zl,zl,n1,n2,n3]
  simp only [Bool.not_true,Bool.or_self,cond_false]
  have:∀ (k:Bool) (l:List Rule),(∀ r∈l,bM p.Offices r.Expr=true)→gq.L1 p k l=k:=by
   intro k l
   induction l with
   | nil=>intro _;rfl
   | cons y l ih=>
    intro hl
    simp only [gq.L1,hl y (List.mem_cons_self ..),Bool.not_true,cond_false]
    exact ih fun z hz=>hl z (List.mem_cons_of_mem _ hz)
  rw [this _ p.Rules fun r hr=>Bk p.Offices _ (n4 _ (hrule r hr))]
  exact Bk p.Offices _ (n4 _ hch)
 have hget:∀ (j:Nat) (r:Rule),p.Rules[j]? = some r→(aB p)[j]? = some r.Expr:=fun j r hj=>by
  have hlt:=(List.getElem?_eq_some_iff.1 hj).1
  rw [lE,List.getElem?_append_left (by simpa using hlt),List.getElem?_map,hj];rfl
 have hgetc:(aB p)[p.Rules.length]? = some p.Change:=by
  rw [lE,List.getElem?_append_right (by simp)];simp
 have hFm:fx p=true:=by
  unfold fx
  rw [Bool.cond_eq_ite,if_neg]
  ·have:∀ (l pre:List Rule),p.Rules=pre++l→fx.L1 p (fx.K1 p) l pre.length=true:=by
    intro l
    induction l with
    | nil=>
     intro pre _
     refine zh false _ fun z hz=>?_
     obtain ⟨q1,q2⟩:=f3 _ _ hgetc z hz
     refine ⟨q1,fun _ he=>?_⟩
     rw [hlen,wrap64 (by omega),Nat.zero_add] at q2
     have e1:decide ((p.Rules.length:Int) < ((p.Rules.length+1:Nat):Int) - 1)=false:=decide_eq_false (by omega)
     rw [e1,Bool.false_or,he] at q2
     simp at q2
    | cons y l ih=>
     intro pre hp
     have hj:p.Rules[pre.length]? = some y:=by rw [hp];simp
     have q:=f2 pre.length y hj
     rw [Nat.zero_add] at q
     simp only [Bool.and_eq_true,aM,decide_eq_true_eq] at q
     have hfe:aG y.Expr true=true:=zh true _ fun z hz=>⟨(f3 _ _ (hget _ _ hj) z hz).1,fun hh=>by cases hh⟩
     have d1:decide (y.Think < 0)=false:=by simp;omega
     have d2:decide (1099511627776≤y.Think)=false:=by simp;omega
     have:=ih (pre++[y]) (by rw [hp];simp)
     rw [List.length_append,List.length_cons,List.length_nil,Nat.zero_add] at this
     simp only [fx.L1,q.1,d1,d2,hfe,Bool.not_true,Bool.or_self,cond_false]
     exact this
   exact this p.Rules [] rfl
  ·simp only [Bool.or_eq_true,decide_eq_true_eq,bne_iff_ne,not_or,ne_eq,Decidable.not_not]
   omega
 have hRes:dL p=(Policy.mk p.Name p.Kinds p.Offices (rrules p.Offices p.Rules 0) (ae p.Offices p.Change) p.Mode,0):=by
  unfold dL
  rw [hT,hN,hFm]
  simp only [cond_false,Bool.not_true]
  rw [wC,List.nil_append]
 have hsame:∀ x,bO p.Offices x=true→bh (ae p.Offices x) x=true:=fun x hx=>by
  refine In p.Offices x ?_
  unfold bO bO.K1 at hx
  exact (ov p.Offices _).1 hx
 have hSame:gN (Policy.mk p.Name p.Kinds p.Offices (rrules p.Offices p.Rules 0) (ae p.Offices p.Change) p.Mode) p=true:=by
  unfold gN
  rw [Bool.cond_eq_ite,if_neg]
  ·have:∀ (l pre:List Rule),p.Rules=pre++l→gN.L1 p gN.K1 (rrules p.Offices l pre.length) pre.length=true:=by
    intro l
    induction l with
    | nil=>intro _ _;rfl
    | cons y l ih=>
     intro pre hp
     have hy:nthI p.Rules (pre.length:Int)=y:=ns (by rw [hp];simp)
     have hj:p.Rules[pre.length]? = some y:=by rw [hp];simp
     obtain ⟨g1,g2⟩:=h2 pre.length y hj
     have:=ih (pre++[y]) (by rw [hp];simp)
     rw [List.length_append,List.length_cons,List.length_nil,Nat.zero_add] at this
     simp only [rrules,gN.L1,hy,hsame _ g2,g1,beq_self_eq_true,bne_self_eq_false,Bool.not_true,Bool.or_self,cond_false]
     exact this
   exact this p.Rules [] rfl
  ·show ¬ ((((((!(p.Name.toList==p.Name.toList))||(p.Mode != p.Mode))||(!(ef p.Offices p.Offices)))||(!(ef p.Kinds p.Kinds)))||(((rrules p.Offices p.Rules 0).length:Int) != (p.Rules.length:Int)))||(!(bh (ae p.Offices p.Change) p.Change)))=true
   rw [AD,AD,AH,hsame _ h3]
   simp
 unfold fQ
 rw [hRes]
 dsimp only
 rw [hSame];rfl
theorem CO {l:List Version} (hs:smV l) (h:bF l=0):dE l=0:=by
 have g:=(oJ l).1 h
 have hlen:=g.len
 unfold dE
 rw [Bool.cond_eq_ite,if_neg (by simp;omega)]
 have:∀ (s pre:List Version),l=pre++s→dE.L1 l dE.K1 s pre.length=0:=by
  intro s
  induction s with
  | nil=>intro _ _;rfl
  | cons y s ih=>
   intro pre hp
   have hy:y∈l:=by rw [hp];simp
   obtain ⟨q1,q2,q3,q4⟩:=g.each y hy
   have hlast:(decide (0 < (pre.length:Int))&&decide (y.No≤(nthI l ((pre.length:Int) - 1)).No))=false:=by
    rcases List.eq_nil_or_concat pre with rfl | ⟨a,x,e⟩
    ·rfl
    ·rw [List.concat_eq_append] at e
     subst e
     have hx:nthI l (((a++[x]).length:Int) - 1)=x:=by
      rw [show (((a++[x]).length:Int) - 1)=(a.length:Int) from by simp]
      exact ns (by rw [hp];simp)
     have hi:=g.inc
     rw [hp,List.pairwise_append] at hi
     have:=hi.2.2 x (by simp) y (List.mem_cons_self ..)
     rw [hx]
     have e2:decide (y.No≤x.No)=false:=by simp;omega
     rw [e2,Bool.and_false]
   have:=ih (pre++[y]) (by rw [hp];simp)
   rw [List.length_append,List.length_cons,List.length_nil,Nat.zero_add] at this
   simp only [dE.L1,Bool.cond_eq_ite]
   rw [if_neg]
   ·exact this
   ·have hck:=GP (hs.2 y hy) q4
    simp only [Bool.or_eq_true,not_or,decide_eq_true_eq,Bool.and_eq_true,Bool.not_eq_true',Bool.not_eq_false,bne_iff_ne,ne_eq,Classical.not_not,fd,hck,and_true]
    simp only [Bool.and_eq_false_iff,decide_eq_false_iff_not] at hlast
    omega
 exact this l [] rfl
theorem AL {B:Int→Bool} {k:Bool} {L:List Int} (hB:∀ y∈L,B y=false) (hL:L.Pairwise (· < ·)) (hk:k=true):∀ (l pre:List Int),L=pre++l→refLs B L k l pre.length=true
 | [],_,_=>hk
 | y::l,pre,h=>by
  have hlast:(decide (0 < (pre.length:Int))&&decide (y≤nthI L ((pre.length:Int) - 1)))=false:=by
   rcases List.eq_nil_or_concat pre with rfl | ⟨a,x,e⟩
   ·rfl
   ·rw [List.concat_eq_append] at e
    subst e
    have hx:nthI L (((a++[x]).length:Int) - 1)=x:=by
     rw [show (((a++[x]).length:Int) - 1)=(a.length:Int) from by simp]
     exact ns (by rw [h];simp)
    have hi:=hL
    rw [h,List.pairwise_append] at hi
    have:=hi.2.2 x (by simp) y (List.mem_cons_self ..)
    rw [hx]
    have e2:decide (y≤x)=false:=by simp;omega
    rw [e2,Bool.and_false]
  have ih:=AL hB hL hk l (pre++[y]) (by rw [h];simp)
  rw [List.length_append,List.length_cons,List.length_nil,Nat.zero_add] at ih
  have hy:y∈L:=by rw [h];simp
  simp only [refLs,hB y hy,hlast,Bool.or_self,cond_false]
  exact ih
theorem vU {l:List Int} {limit:Int} (h:((∀ x∈l,0≤x∧x < limit)∧l.Pairwise (· < ·))∧l.length≤16):eu l limit=true:=by
 have e:∀ (L l:List Int) i,eu.L1 L limit (eu.K1 L) l i=refLs (fun y=>decide (y < 0)||decide (limit≤y)) L (eu.K1 L) l i:=by
  intro L l
  induction l with
  | nil=>intro i;rfl
  | cons y l ih=>intro i;simp only [eu.L1,refLs,ih]
 unfold eu
 rw [e]
 refine AL (fun y hy=>?_) h.1.2 ?_ l [] rfl
 ·have:=h.1.1 y hy
  simp only [Bool.or_eq_false_iff,decide_eq_false_iff_not];omega
 ·unfold eu.K1;rw [decide_eq_true_eq];omega
theorem Dy (no:Int):∀ (l:List Document) (i:Nat),(l.any fun d=>d.No==no)=true→0≤gg.L1 no gg.K1 l i
 | [],i,h=>by cases h
 | y::l,i,h=>by
  simp only [gg.L1,Bool.cond_eq_ite]
  split
  ·omega
  ·next hc=>
   rw [List.any_cons,Bool.eq_false_iff.2 hc,Bool.false_or] at h
   exact Dy no l (i+1) h
theorem Au (L:List Document):∀ nos:List Int,(∀ x∈nos,(L.any fun d=>d.No==x)=true)→dj.L1 L dj.K1 nos=true
 | [],_=>rfl
 | y::nos,h=>by
  have h1:=Dy y L 0 (h y (List.mem_cons_self ..))
  have:decide (gg L y < 0)=false:=by unfold gg;simp;omega
  simp only [dj.L1,this,cond_false]
  exact Au L nos fun x hx=>h x (List.mem_cons_of_mem _ hx)
theorem Kj {L:List Document} {d:Document} (h:ew (aC L) d=true):dj L d.Revokes=true∧dj L d.Needs=true:=by
 have hs:=(wQ L L 0 []).2
 have key:∀ nos:List Int,cw nos (fun dB=>ej dB (aC L))=false→dj L nos=true:=by
  intro nos hn
  rw [containsF,List.any_eq_false] at hn
  refine Au L nos fun x hx=>?_
  have h1:=hn x hx
  unfold ej at h1
  have e:mhas (aC L).at_ x=(mhas [] x||L.any fun d=>d.No==x):=hs x
  rw [e] at h1
  simpa [mhas,mget?] using h1
 unfold ew at h
 simp only [Bool.and_eq_true,Bool.not_eq_true'] at h
 exact ⟨key _ h.1,key _ h.2⟩
theorem BW {l:List Document} (h:aX l=0):fm l=0:=by
 have L:∀ (L l:List Document) (i:Nat),aX.L1 L aX.K1 l i=0→fm.L1 L fm.K1 l i=0:=by
  intro L l
  induction l with
  | nil=>intros;rfl
  | cons y l ih=>
   intro i h
   simp only [aX.L1,Bool.cond_eq_ite] at h
   split at h
   ·omega
   ·next hc=>
    simp only [Bool.or_eq_true,not_or,Bool.not_eq_true',Bool.not_eq_false,Bool.not_eq_true] at hc
    obtain ⟨⟨c1,c2⟩,c3⟩:=hc
    obtain ⟨t1,t2⟩:=Kj c3
    have hR:iB y=true:=by
     simp only [gm,Bool.and_eq_true,decide_eq_true_eq,fp] at c1
     obtain ⟨⟨⟨⟨⟨⟨⟨⟨⟨⟨⟨⟨p1,p2⟩,p3⟩,p4⟩,p5⟩,p6⟩,p7⟩,p8⟩,p9⟩,p10⟩,p11⟩,p12⟩,p13⟩:=c1
     unfold iB
     rw [Bool.cond_eq_ite,if_neg]
     ·rw [vU ((zZ _ _).1 p11),vU ((zZ _ _).1 p12),vU ((zZ _ _).1 p13)]
      simp only [Bool.and_eq_true,decide_eq_true_eq,Bool.and_true]
      exact ⟨⟨p8,p9⟩,p10⟩
     ·simp only [mV,Bool.or_eq_true,decide_eq_true_eq,Bool.not_eq_true',Bool.and_eq_false_iff,decide_eq_false_iff_not,not_or]
      omega
    simp only [fm.L1,hR,c2,t1,t2,Bool.not_true,Bool.or_false,Bool.or_self,cond_false]
    exact ih (i+1) h
 unfold aX at h
 unfold fm
 rw [Bool.cond_eq_ite] at h ⊢
 split at h
 ·omega
 ·next hc=>rw [if_neg hc];exact L l l 0 h
theorem judge30 {r:Register} (hs:smR r):eB r=0↔iW r=0:=by
 constructor
 ·intro h
  obtain ⟨d1,d2,d3,d4,d5,d6,d7⟩:=(me r).1 h
  simp only [iW,(yV r.Appoints).symm.trans d1,(xE r.Deputies).symm.trans d2,(vG r.Interests).symm.trans d3,(zp r.Budgets).symm.trans d4,CO hs.vers d5,BW d6,(vL r.Approvals).symm.trans d7]
  rfl
 ·intro h
  obtain ⟨c1,c2,c3,c4,c5,c6,c7⟩:=F1 h
  exact (me r).2 ⟨(yV r.Appoints).trans c1,(xE _).trans c2,(vG r.Interests).trans c3,(zp _).trans c4,F3 hs.vers c5,CL c6,(vL _).trans c7⟩
def sKey (y:Interest):dS:=dS.mk y.Person y.Party y.Of
def sCnt (t known:Int) (y:Interest):Prop:=y.At≤t∧y.Known≤known
def sOver (z w:Interest):Prop:=z.At < w.At∨(w.At=z.At∧z.No < w.No)
structure Nn (t known:Int) (pre:List Interest) (m:List (dS×Interest)):Prop where
 some:∀ k z,mget? m k=some z→z∈pre∧sKey z=k∧sCnt t known z∧∀ w∈pre,sKey w=k→sCnt t known w→¬ sOver z w
 none:∀ k,mget? m k=none→∀ w∈pre,sKey w=k→¬ sCnt t known w
structure ChL (l:List Int):Prop where
 inc:l.Pairwise (· < ·)
 zero:∃ l',l=0::l'
 tm:∀ x∈l,0≤x∧x < 1099511627776
theorem Ip {a b:List Int} (ha:a.Pairwise (· < ·)) (hb:b.Pairwise (· < ·)) (h:∀ x,x∈a↔x∈b):a=b:=
 (wX ha hb fun x hx=>(h x).1 hx).eq_of_length_le (wX hb ha fun x hx=>(h x).2 hx).length_le
theorem Im (l:List Document) {d:Document} (hd:d∈l):mhas (aC l).at_ d.No=true:=by
 have:=(wQ l l 0 []).2 d.No
 show mhas (aC.L1 (aC.K1 l) l 0 []).at_ d.No=true
 rw [this]
 simp only [Bool.or_eq_true,List.any_eq_true,beq_iff_eq]
 exact .inr ⟨d,hd,rfl⟩
theorem Dz {t:Int} (h:0≤t∧t < 1099511627776):fp t=true:=by
 simp only [fp,Bool.and_eq_true,decide_eq_true_eq];exact h
theorem Fx {l:List Document} {signed:List Int} {t:Int} (hc:aX l=0) (hs:de l signed=true) (ht:0≤t∧t < 1099511627776):(cd l signed t).2=0:=by
 unfold cd
 rw [hc,hs,Dz ht]
 simp only [bne_self_eq_false,cond_false,Bool.not_true,Bool.or_false]
 have:∀ (s:List Document) (i:Nat) (g:List Int),(cd.L1 l signed t cd.K1 s i g).2=0:=by
  intro s
  induction s with
  | nil=>intro i g;rfl
  | cons y s ih=>intro i g;simp only [cd.L1,Bool.cond_eq_ite];split <;> exact ih _ _
 exact this _ _ _
theorem KV {l:List Document} {signed:List Int} {t:Int} {d:Document} (hc:aX l=0) (hs:de l signed=true) (ht:0≤t∧t < 1099511627776) (hd:d∈l):(fE l signed d.No t).2.2=0:=by
 unfold fE
 rw [hc,hs,Dz ht,sA,Im l hd];rfl
theorem Lt {l:List Document} {f:Document→Bool} {d:Document} (hd:d∈l) (hf:f d=true):0≤ad l f∧ad l f < (l.length:Int):=by
 unfold ad
 rcases Bz f l 0 with ⟨_,h⟩ | ⟨a,y,b,h1,h2,_⟩
 ·rw [h d hd] at hf;cases hf
 ·rw [h2,h1];simp only [List.length_append,List.length_cons];omega
theorem JC {l:List Document} {signed:List Int} (h:de l signed=true):signed.length=l.length:=by
 simp only [de,Bool.and_eq_true,beq_iff_eq] at h
 have:=h.1
 omega
section
variable {c:bo} (h:iS c)
include h
theorem iS.docs:aX c.Register.Docs=0:=((me _).1 h.chk).2.2.2.2.2.1
theorem CM {signed:List Int} (hs:de c.Register.Docs signed=true):(cd c.Register.Docs signed c.at_).2=0:=Fx h.docs hs h.time
theorem II {signed:List Int} {d:Document} (hs:de c.Register.Docs signed=true) (hd:d∈c.Register.Docs):(fE c.Register.Docs signed d.No c.at_).2.2=0:=KV h.docs hs h.time hd
theorem DB {signed:List Int} (hs:de c.Register.Docs signed=true):0≤ad c.Register.Docs (fun dB=>bX dB c)∧ad c.Register.Docs (fun dB=>bX dB c) < (signed.length:Int):=by
 rw [JC hs]
 exact Lt h.doc (by simp [bX])
end
theorem Cc:∀ (xs out:List Int),out.Pairwise (· < ·)→(∀ a∈out,∀ y∈xs,a≤y)→xs.Pairwise (·≤·) →
  (xs.foldl compStep out).Pairwise (· < ·)∧∀ z,z∈xs.foldl compStep out↔z∈out∨z∈xs
 | [],out,h1,_,_=>⟨h1,fun z=>by simp⟩
 | x::xs,out,h1,h2,h3=>by
  rw [List.pairwise_cons] at h3
  simp only [List.foldl_cons]
  by_cases hx:out.getLast? = some x
  ·have e:compStep out x=out:=by simp [compStep,hx]
   rw [e]
   obtain ⟨a,b⟩:=Cc xs out h1 (fun a ha y hy=>h2 a ha y (List.mem_cons_of_mem _ hy)) h3.2
   refine ⟨a,fun z=>?_⟩
   rw [b]
   constructor
   ·rintro (h | h)
    ·exact .inl h
    ·exact .inr (List.mem_cons_of_mem _ h)
   ·rintro (h | h)
    ·exact .inl h
    ·rcases List.mem_cons.1 h with rfl | h
     ·exact .inl (List.mem_of_getLast? hx)
     ·exact .inr h
  ·have e:compStep out x=out++[x]:=by simp [compStep,hx]
   rw [e]
   have hlt:∀ a∈out,a < x:=by
    intro a ha
    have hle:=h2 a ha x (List.mem_cons_self ..)
    rcases Int.lt_or_eq_of_le hle with h | h
    ·exact h
    ·exfalso
     subst h
     obtain ⟨pre,post,hp⟩:=List.append_of_mem ha
     cases post with
     | nil=>exact hx (by rw [hp];simp)
     | cons p post=>
      rw [hp,List.pairwise_append] at h1
      have h4:=(List.pairwise_cons.1 h1.2.1).1 p (List.mem_cons_self ..)
      have h5:=h2 p (by rw [hp];simp) a (List.mem_cons_self ..)
      omega
   obtain ⟨a,b⟩:=Cc xs (out++[x]) (by
     rw [List.pairwise_append]
     exact ⟨h1,List.pairwise_singleton _ _,fun a ha y hy=>by rw [List.mem_singleton.1 hy];exact hlt a ha⟩) (fun a ha y hy=>by
     rcases List.mem_append.1 ha with ha | ha
     ·exact h2 a ha y (List.mem_cons_of_mem _ hy)
     ·rw [List.mem_singleton.1 ha];exact h3.1 y hy) h3.2
   refine ⟨a,fun z=>?_⟩
   rw [b]
   simp only [List.mem_append,List.mem_cons,List.not_mem_nil,or_false]
   constructor
   ·rintro ((h | h) | h)
    ·exact .inl h
    ·exact .inr (.inl h)
    ·exact .inr (.inr h)
   ·rintro (h | h | h)
    ·exact .inl (.inl h)
    ·exact .inl (.inr h)
    ·exact .inr h
def setI (xs:List Int):List Int:=compI (sortI xs)
theorem zT (xs:List Int):(setI xs).Pairwise (· < ·)∧∀ z,z∈setI xs↔z∈xs:=by
 obtain ⟨a,b⟩:=Cc (sortI xs) [] List.Pairwise.nil (fun _ h=>(List.not_mem_nil h).elim) (kw xs)
 refine ⟨a,fun z=>(b z).trans ?_⟩
 rw [(j3 xs).mem_iff]
 simp
theorem Kg {l:List Document} {f:Document→Bool} (h:0≤ad l f):∃ a y b,l=a++y::b∧nthI l (ad l f)=y∧f y=true∧∀ x∈a,f x=false:=by
 unfold ad at h ⊢
 rcases Bz f l 0 with ⟨h1,_⟩ | ⟨a,y,b,h1,h2,h3,h4⟩
 ·omega
 ·refine ⟨a,y,b,h1,?_,h3,h4⟩
  rw [h2,Nat.zero_add]
  exact ns (by rw [h1];simp)
theorem D2 {r:Register} {doc t known:Int} {c:bo} (hc:eB r=0) (h:ki r doc t known=.ok c):
  c=⟨r,c.doc,t,known⟩∧iS c∧c.doc.No=doc∧∃ a b,r.Docs=a++c.doc::b∧∀ x∈a,x.No≠doc:=by
 unfold ki at h
 rw [Bool.cond_eq_ite] at h
 split at h
 ·cases h
 ·next hn=>
  simp only [Bool.or_eq_true,not_or,decide_eq_true_eq] at hn
  obtain ⟨⟨h1,h2⟩,h3⟩:=hn
  cases h
  obtain ⟨a,y,b,e1,e2,e3,e4⟩:=Kg (by omega:0≤ad r.Docs (fun dB=>bx dB doc))
  rw [e2]
  refine ⟨rfl,⟨hc,by rw [e1];simp,?_,?_⟩,?_,a,b,e1,fun x hx=>?_⟩
  ·show 0≤t∧t < 1099511627776;omega
  ·show 0≤known∧known < 1099511627776;omega
  ·simpa [bx] using e3
  ·simpa [bx] using e4 x hx
theorem FA (f:Version→Bool):∀ (l:List Version) (i:Nat),(aN.L1 f aN.K1 l i=-1∧∀ x∈l,f x=false) ∨
  ∃ a y b,l=a++y::b∧aN.L1 f aN.K1 l i=((i+a.length:Nat):Int)∧f y=true∧∀ x∈a,f x=false
 | [],i=>.inl ⟨rfl,fun _ h=>(List.not_mem_nil h).elim⟩
 | y::l,i=>by
  simp only [aN.L1]
  cases hy:f y with
  | true=>exact .inr ⟨[],y,l,rfl,by simp,hy,fun _ h=>(List.not_mem_nil h).elim⟩
  | false=>
   rcases FA f l (i+1) with ⟨h1,h2⟩ | ⟨a,z,b,rfl,h2,h3,h4⟩
   ·exact .inl ⟨h1,fun x hx=>by rcases List.mem_cons.1 hx with rfl | hx;exact hy;exact h2 x hx⟩
   ·refine .inr ⟨y::a,z,b,rfl,?_,h3,fun x hx=>by rcases List.mem_cons.1 hx with rfl | hx;exact hy;exact h4 x hx⟩
    rw [cond_false,h2];simp only [List.length_cons];congr 1;omega
theorem w7 (c:bo) (no:Int):(dJ c no=.error 1∧∀ v∈c.Register.Versions,v.No≠no)∨∃ a v b,c.Register.Versions=a++v::b∧dJ c no=.ok v.Policy∧v.No=no∧∀ x∈a,x.No≠no:=by
 unfold dJ aN
 rcases FA (fun dB=>du dB no) c.Register.Versions 0 with ⟨h1,h2⟩ | ⟨a,v,b,h1,h2,h3,h4⟩
 ·left
  rw [h1]
  exact ⟨rfl,fun v hv=>by simpa [du] using h2 v hv⟩
 ·right
  refine ⟨a,v,b,h1,?_,by simpa [du] using h3,fun x hx=>by simpa [du] using h4 x hx⟩
  rw [h2,show decide (((0+a.length:Nat):Int) < 0)=false from decide_eq_false (by omega),cond_false,Nat.zero_add,ns (x:=v) (by rw [h1];simp)]
theorem Iu {c:bo} {no:Int} {p:Policy} (h:dJ c no=.ok p):∃ v∈c.Register.Versions,v.No=no∧v.Policy=p:=by
 rcases w7 c no with ⟨h1,_⟩ | ⟨a,v,b,h1,h2,h3,_⟩
 ·rw [h] at h1;cases h1
 ·rw [h] at h2;cases h2
  exact ⟨v,by rw [h1];simp,h3,rfl⟩
theorem w6 {c:bo} {no:Int} (h:∃ v∈c.Register.Versions,v.No=no):exOk (dJ c no):=by
 obtain ⟨v,hv,hn⟩:=h
 rcases w7 c no with ⟨_,h2⟩ | ⟨_,_,_,_,h2,_⟩
 ·exact absurd hn (h2 v hv)
 ·rw [h2];trivial
structure KP (p:Policy):Prop where
 sm:smP p
 off:p.Offices.length≤32
 rules:p.Rules.length=p.Kinds.length∧∀ y∈p.Rules,0≤y.Think∧y.Think≤1099511627775
theorem sJ {c:bo} (h:iS c) (hs:smR c.Register) {no:Int} {p:Policy} (hp:dJ c no=.ok p):KP p:=by
 obtain ⟨v,hv,_,rfl⟩:=Iu hp
 have hg:=(h.vers.each v hv).2.2.2
 exact ⟨hs.1.2 v hv,(uW hg).2.1,(uW hg).1,(Cf hg).2.2⟩
theorem MA {ρ : Type} [Inhabited ρ] {x:Except Int ρ} {p:ρ} (h:x=.ok p):exD x=p:=by subst h;rfl
theorem IQ (l:List Approval) (doc cv known:Int):(eJ l doc cv known).length≤l.length:=by
 show (bP.L1 doc cv known bP.K1 l).length≤l.length
 induction l with
 | nil=>exact Nat.le_refl _
 | cons y l ih=>simp only [bP.L1,Bool.cond_eq_ite];split <;> simp only [List.length_cons] <;> omega
theorem IN (l:List Approval) (doc cv known:Int):(aI l doc cv known).length≤l.length:=by
 have h2:∀ (g:List (eO×Approval)) (s acc:List Approval),(aI.L2 g aI.K2 s acc).length≤acc.length+s.length:=by
  intro g s
  induction s with
  | nil=>intro acc;exact Nat.le_refl _
  | cons y s ih=>
   intro acc
   simp only [aI.L2,Bool.cond_eq_ite]
   split
   ·have:=ih (acc++[y]);simp only [List.length_append,List.length_cons,List.length_nil] at *;omega
   ·have:=ih acc;simp only [List.length_cons];omega
 have h1:∀ (s:List Approval) (g:List (eO×Approval)),(aI.L1 (aI.K1 l doc cv known) s g).length≤l.length:=by
  intro s
  induction s with
  | nil=>
   intro g
   have h3:=h2 g (eJ l doc cv known) []
   have h4:=IQ l doc cv known
   show (aI.L2 g aI.K2 (eJ l doc cv known) []).length≤l.length
   simp only [List.length_nil] at h3;omega
  | cons y s ih=>intro g;simp only [aI.L1,Bool.cond_eq_ite];split <;> exact ih _
 exact h1 _ _
theorem xG (l:List Approval) (d b th t k:Int):(bH l d b th t k).1.length≤l.length:=by
 unfold bH
 simp only [Bool.cond_eq_ite]
 split
 ·exact Nat.zero_le _
 ·split
  ·exact Nat.zero_le _
  ·exact Nat.le_trans (List.length_filter_le _ _) (IN _ _ _ _)
def goodA (c:bo) (y:Approval):Bool:=(((fe c.Register.Appoints y.Office y.For c.at_ c.known).2.2.1&&(aE c.Register.Deputies y.For y.By y.Office c.doc.Kind c.doc.Value c.at_ c.known).2.1)&&(!(ib c y.For)))&&(!(ib c y.By))
theorem HG (c:bo):∀ l:List Approval,cB.L1 c cB.K1 l=l.filter (goodA c)
 | []=>rfl
 | y::l=>by
  simp only [cB.L1,List.filter_cons,HG c l,Bool.cond_eq_ite]
  rfl
theorem Ea (c:bo) (p:Policy):eU c p=bif decide ((p.Kinds.length:Int)≤c.doc.Kind) then [] else ((bH c.Register.Approvals c.doc.No c.doc.At ((nthI p.Rules c.doc.Kind).Think) c.at_ c.known).1).filter (goodA c):=by
 show cB c p=_
 unfold cB
 rw [HG]
theorem Dk (c:bo) (p:Policy):cS c p=setI ((eU c p).map (·.For)):=by
 have:∀ (s:List Approval) (g:List Int),cS.L1 cS.K1 s g=setI (g++s.map (·.For)):=by
  intro s
  induction s with
  | nil=>intro g;simp [cS.L1,cS.K1,setI,slices_Compact_int]
  | cons y s ih=>intro g;simp only [cS.L1,ih,List.map_cons,List.append_assoc,List.cons_append,List.nil_append]
 have h:=this (eU c p) []
 rw [List.nil_append] at h
 exact h
theorem FY:∀ (xs out:List Int),(xs.foldl compStep out).length≤out.length+xs.length
 | [],out=>Nat.le_refl _
 | x::xs,out=>by
  simp only [List.foldl_cons,List.length_cons]
  have h1:=FY xs (compStep out x)
  have h2:(compStep out x).length≤out.length+1:=by unfold compStep;split <;> simp
  omega
theorem Kk {c:bo} (hs:smR c.Register) (p:Policy):(eU c p).length≤2000000:=by
 rw [Ea,Bool.cond_eq_ite]
 have h3:=hs.2.2.2.2.2.2
 split
 ·exact Nat.zero_le _
 ·exact Nat.le_trans (List.length_filter_le _ _) (Nat.le_trans (xG _ _ _ _ _ _) h3)
theorem Bd {c:bo} (hs:smR c.Register) (p:Policy):(cS c p).length≤2000000:=by
 rw [Dk]
 have h1:=FY (sortI ((eU c p).map (·.For))) []
 rw [ir,List.length_map] at h1
 have h2:(eU c p).length≤c.Register.Approvals.length:=by
  rw [Ea,Bool.cond_eq_ite]
  split
  ·exact Nat.zero_le _
  ·exact Nat.le_trans (List.length_filter_le _ _) (xG _ _ _ _ _ _)
 have h3:=hs.2.2.2.2.2.2
 show (compI _).length≤_
 unfold compI
 simp only [List.length_nil] at h1
 omega
theorem Hs (u:List Use) (v t k:Int):∀ s:List Budget,(ce.L1 u v t k ce.K1 s).2.2=0
 | []=>rfl
 | y::s=>by
  simp only [ce.L1]
  have:∀ (l:List Int) (a b:Int),(ce.L3 (fun zg3_b6_0 zg3_b5_0=>(bif (decide (y.Count < zg3_b5_0)||decide (y.Value < zg3_b6_0)) then (y.No,false,0) else (ce.L1 u v t k ce.K1 s))) l a b).2.2=0:=by
   intro l
   induction l with
   | nil=>intro a b;simp only [ce.L3,Bool.cond_eq_ite];split;rfl;exact Hs u v t k s
   | cons z l ih=>intro a b;simp only [ce.L3];exact ih _ _
  exact this _ _ _
theorem zr {a b z:Int}:aU a b [z]=true↔a≤z∧z≤b:=by
 simp only [aU,containsF,gV,List.any_cons,List.any_nil,Bool.or_false,Bool.not_eq_true',Bool.or_eq_false_iff,decide_eq_false_iff_not];omega
theorem F7 {a b y z:Int}:aU a b [y,z]=true↔(a≤y∧y≤b)∧(a≤z∧z≤b):=by
 simp only [aU,containsF,gV,List.any_cons,List.any_nil,Bool.or_false,Bool.not_eq_true',Bool.or_eq_false_iff,decide_eq_false_iff_not];omega
theorem JY {l:List Budget} {u:List Use} (h:(ce l u 0 0 0 0).2.2=0) {k v t n:Int} (hk:0≤k∧k < 16) (hv:0≤v∧v≤1099511627776) (ht:0≤t∧t < 1099511627776) (hn:0≤n∧n < 1099511627776):(ce l u k v t n).2.2=0:=by
 unfold ce at h ⊢
 cases h1:(cx l) != 0 with
 | true=>
  rw [h1,cond_true] at h
  have:cx l=0:=h
  rw [this] at h1;cases h1
 | false=>
  rw [h1,cond_false] at h
  rw [cond_false]
  cases h2:decide (4096 < (u.length:Int)) with
  | true=>rw [h2,cond_true] at h;cases h
  | false=>
   rw [h2,cond_false] at h
   rw [cond_false]
   cases h3:iR u with
   | false=>rw [h3] at h;cases h
   | true=>
    rw [zr.2 (show (0:Int)≤k∧k≤15 by omega),zr.2 hv,F7.2 (show ((0:Int)≤t∧t≤1099511627775)∧(0≤n∧n≤1099511627775) by omega)]
    exact Hs _ _ _ _ _
theorem D7 {l:List Document} {signed:List Int} {t:Int} (h:(cd l signed t).2=0):de l signed=true:=by
 unfold cd at h
 cases h1:(aX l) != 0 with
 | true=>
  rw [h1,cond_true] at h
  have:aX l=0:=h
  rw [this] at h1;cases h1
 | false=>
  rw [h1,cond_false] at h
  cases h2:de l signed with
  | true=>rfl
  | false=>rw [h2] at h;cases h
theorem IJ {c:bo} {signed:List Int} (h:fY c signed=false):c.doc.At≤c.at_:=by
 unfold fY at h
 simp only [Bool.or_eq_false_iff,decide_eq_false_iff_not] at h
 have:=h.1.1.1
 omega
theorem Il:smP cq:=by
 refine ⟨by decide,fun r hr=>?_,by decide,by decide,by decide⟩
 rw [List.mem_singleton.1 hr];decide
theorem jM {a:List Appoint} {i:List Interest} {b:List Budget} (ha:a.length≤9) (hi:i.length≤9) (hb:b.length≤9):smR ⟨a,aA.Deputies,i,b,aA.Versions,aA.Docs,aA.Approvals⟩:=by
 have h1:aA.Versions.length≤2000000:=by decide
 have h2:aA.Deputies.length≤2000000:=by decide
 have h3:aA.Docs.length≤2000000:=by decide
 have h4:aA.Approvals.length≤2000000:=by decide
 refine ⟨⟨h1,fun v hv=>?_⟩,by show a.length≤_;omega,h2,by show i.length≤_;omega,by show b.length≤_;omega,h3,h4⟩
 rw [List.mem_singleton.1 hv];exact Il
end Go.Sg
