import Derived.Test.YtngiefchigcphaaGreatDoorProg
import Derived.ChangeArms
import Derived.OpenShut
import Derived.Test.YtngiefchigcphaaGreatDoorRows
import Derived.Test.YtngiefchigcphaaGreatDoorW4
/- A part of the proof of AsofSpec. -/
set_option linter.unusedVariables false
set_option linter.unusedSimpArgs false
set_option maxRecDepth 100000
namespace Go.Sg
theorem tN (begun at_:Int) (k:Bool→List Version→List Int×Int×Int):∀ (l:List (Int×Version)) b g,l.Pairwise (fun p q=>p.1 < q.1)→ay.L1 begun at_ k l b g=k (b||(l.filter fun p=>decide (p.1≤at_)).any fun p=>p.1==begun) (g++(l.filter fun p=>decide (p.1≤at_)).map (·.2))
 | [],b,g,_=>by simp [ay.L1]
 | y::l,b,g,h=>by
  obtain ⟨h1,h2⟩:=List.pairwise_cons.1 h
  simp only [ay.L1,Bool.cond_eq_ite,decide_eq_true_eq]
  split
  ·next hy=>
   have:((y::l).filter fun p=>decide (p.1≤at_))=[]:=by
    rw [List.filter_eq_nil_iff]
    intro p hp
    rcases List.mem_cons.1 hp with rfl | hp
    ·simp;omega
    ·have:=h1 p hp;simp;omega
   rw [this];simp
  ·next hy=>
   rw [tN begun at_ k l _ _ h2,List.filter_cons,if_pos (by simp;omega)]
   simp [Bool.or_assoc]
theorem IS {l:List Version} (g:px l) (hr:cw l=0) {begun at_ known:Int} (hb:0≤begun∧begun < 1099511627776) (ht:0≤at_∧at_ < 1099511627776) (hk:0≤known∧known < 1099511627776) (hle:begun≤at_):dJ l begun at_ known=ay l begun at_ known:=by
 have hj:=BR g (begun:=begun) (at_:=at_) (known:=known) hb ht hk hle
 have h0:bg l=0:=(je l).2 g
 have h1:∀ x:Int,0≤x∧x < 1099511627776→eC x=true:=fun x hx=>by simp [eC,hx]
 have r1:∀ x:Int,0≤x∧x < 1099511627776→cn x=true:=fun x hx=>by simp [cn,hx]
 have h2:decide (at_ < begun)=false:=by simp;omega
 have hF:∀ t,decide (aw l t known < 0)=(FV t known l).isNone∧∀ v,FV t known l=some v→nthI l (aw l t known)=v:=fun t=>by
  rcases Eg l t known with ⟨h1,h2⟩ | ⟨h1,h2⟩
  ·rw [h2];exact ⟨by simpa using h1,fun v h=>by cases h⟩
  ·rw [h2];exact ⟨by simp;omega,fun v h=>Option.some.inj h⟩
 obtain ⟨b0,inv⟩:=Ji (f:=begun) (known:=known) (l:=l) fun y hy=>(g.each y hy).1.1
 have hnd:((inForceM known begun l (-1) []).map (·.1)).Nodup:=kn known begun l (-1) [] List.nodup_nil
 have hP:ay l begun at_ known=ay.L1 begun at_ ay.K1 (ep l begun known) false []:=by
  unfold ay
  rw [h0,h1 _ hb,h1 _ ht,h1 _ hk,h2];rfl
 have hP2:=tN begun at_ ay.K1 (ep l begun known) false [] (vn l begun known)
 rw [Bool.false_or,List.nil_append] at hP2
 have hE:=qP l begun known
 generalize inForceM known begun l (-1) []=m at inv hnd hE
 have hent:(ep l begun known).filter (fun p=>decide (p.1≤at_))=((sortI (m.map Prod.fst)).filter fun k=>decide (k≤at_)).map fun y=>(y,mgetD m y (Version.mk 0 0 0 (Policy.mk (⟨#[]⟩:ByteArray) [] [] [] (Expr.mk 0 0 0 (⟨#[]⟩:ByteArray) []) 0))):=by
  rw [hE,List.filter_map];rfl
 generalize hks:(sortI (m.map Prod.fst)).filter (fun k=>decide (k≤at_))=ks at hent
 have kin:∀ t,t∈ks↔t∈m.map (·.1)∧t≤at_:=fun t=>by
  rw [← hks,List.mem_filter,(iX _).mem_iff];simp
 have krise:ks.Pairwise (· < ·):=by
  rw [← hks];exact (sK (jT _) ((iX _).nodup_iff.2 hnd)).sublist (List.filter_sublist ..)
 rw [hent] at hP2
 generalize hz:(Version.mk 0 0 0 (Policy.mk (⟨#[]⟩:ByteArray) [] [] [] (Expr.mk 0 0 0 (⟨#[]⟩:ByteArray) []) 0))=z at hP2 hent
 have kval:∀ t∈ks,∃ v,mgetD m t z=v∧FV t known l=some v∧(t=begun∨begun < t∧v.At=t):=fun t h=>by
  obtain ⟨q1,q2⟩:=(kin t).1 h
  have q3:=inv.low t q1
  by_cases e:t=begun
  ·subst e
   obtain ⟨v,hv,_⟩:=mv q1
   exact ⟨v,by unfold mgetD;rw [hv];rfl,by rw [← inv.beg];exact hv,.inl rfl⟩
  ·obtain ⟨v,a1,a2,a3⟩:=inv.get t (by omega) q1
   exact ⟨v,by unfold mgetD;rw [a1];rfl,a2,.inr ⟨by omega,a3⟩⟩
 have hany:((ks.map fun y=>(y,mgetD m y z)).any fun p=>p.1==begun)=ks.contains begun:=by
  rw [List.any_map,Bool.eq_iff_iff,List.any_eq_true,List.contains_iff_mem]
  constructor
  ·rintro ⟨x,hx,e⟩;rw [show begun=x from (by simpa using e:x=begun).symm];exact hx
  ·intro h;exact ⟨begun,h,by simp⟩
 have hmet:(ks.map fun y=>(y,mgetD m y z)).map (·.2)=ks.map fun y=>mgetD m y z:=by rw [List.map_map];rfl
 rw [hany,hmet] at hP2
 have hbeg:ks.contains begun=(FV begun known l).isSome:=by
  rw [Bool.eq_iff_iff,List.contains_iff_mem,kin]
  constructor
  ·rintro ⟨q,_⟩
   obtain ⟨v,hv,_⟩:=mv q
   rw [inv.beg] at hv;rw [hv];rfl
  ·intro h
   obtain ⟨v,hv⟩:=Option.isSome_iff_exists.1 h
   exact ⟨vl (by rw [inv.beg];exact hv),hle⟩
 have hR:dJ l begun at_ known=(bif (FV at_ known l).isNone then ([],0,0) else (bif ((nthI l (aw l at_ known)).Policy.Mode==1) then (bif (FV begun known l).isNone then ([],(nthI l (aw l at_ known)).Policy.Mode,0) else ([(nthI l (aw l begun known)).No],(nthI l (aw l at_ known)).Policy.Mode,0)) else (bif ((nthI l (aw l at_ known)).Policy.Mode==2) then ([(nthI l (aw l at_ known)).No],(nthI l (aw l at_ known)).Policy.Mode,0) else ((bj l begun at_ known),(nthI l (aw l at_ known)).Policy.Mode,0)))):=by
  unfold dJ
  rw [hr,r1 _ hb,r1 _ ht,r1 _ hk,h2,(hF at_).1,(hF begun).1];rfl
 rw [hR,hP,hP2]
 rw [hP,hP2] at hj
 cases hw:FV at_ known l with
 | none=>
  have hno:ks=[]:=by
   cases hks2:ks with
   | nil=>rfl
   | cons t ts=>
    exfalso
    have hmem:t∈ks:=by rw [hks2];exact List.mem_cons_self ..
    obtain ⟨v,_,hv,_⟩:=kval t hmem
    have f1:=mg t known l none v (fun _ h=>by cases h) hv
    have f2:=f1.1.resolve_right (by simp)
    exact (CI at_ known l none hw).2 v f2.1 ⟨by have:=((kin t).1 hmem).2;omega,f2.2⟩
  rw [hno];rfl
 | some w=>
  rw [Option.isNone_some,cond_false,(hF at_).2 w hw]
  have f1:=mg at_ known l none w (fun _ h=>by cases h) hw
  have f2:=f1.1.resolve_right (by simp)
  have hlast:∃ κ,κ∈ks∧mgetD m κ z=w∧∀ t∈ks,t≤κ:=by
   by_cases hwb:w.At≤begun
   ·have hfb:=yg hle l w hw hwb
    have hm:begun∈ks:=(kin begun).2 ⟨vl (by rw [inv.beg];exact hfb),hle⟩
    refine ⟨begun,hm,?_,fun t h=>?_⟩
    ·obtain ⟨v,a1,a2,_⟩:=kval begun hm
     rw [hfb] at a2;rw [a1];exact (Option.some.inj a2).symm
    ·obtain ⟨v,_,a2,a3⟩:=kval t h
     rcases a3 with e | ⟨q1,q2⟩
     ·omega
     ·have g1:=mg t known l none v (fun _ h=>by cases h) a2
      have g2:=g1.1.resolve_right (by simp)
      have:=f1.2.2.1 v g2.1 (by have:=((kin t).1 h).2;omega) g2.2
      omega
   ·have hm:w.At∈ks:=(kin w.At).2 ⟨(inv.has w.At (by omega)).2 ⟨w,f2.1,rfl,f2.2⟩,f1.2.1⟩
    have hfw:=yg (s:=w.At) f1.2.1 l w hw (Int.le_refl _)
    refine ⟨w.At,hm,?_,fun t h=>?_⟩
    ·obtain ⟨v,a1,a2,_⟩:=kval w.At hm
     rw [hfw] at a2;rw [a1];exact (Option.some.inj a2).symm
    ·obtain ⟨v,_,a2,a3⟩:=kval t h
     rcases a3 with e | ⟨q1,q2⟩
     ·omega
     ·have g1:=mg t known l none v (fun _ h=>by cases h) a2
      have g2:=g1.1.resolve_right (by simp)
      have:=f1.2.2.1 v g2.1 (by have:=((kin t).1 h).2;omega) g2.2
      omega
  obtain ⟨κ,k1,k2,k3⟩:=hlast
  obtain ⟨init,hinit⟩:∃ init,ks=init++[κ]:=by
   rcases List.eq_nil_or_concat ks with e | ⟨a,x,e⟩
   ·rw [e] at k1;cases k1
   ·rw [List.concat_eq_append] at e
    refine ⟨a,?_⟩
    have hx:x=κ:=by
     rw [e] at k1 krise
     rcases List.mem_append.1 k1 with h | h
     ·have q1:=(List.pairwise_append.1 krise).2.2 κ h x (by simp)
      have q2:=k3 x (by rw [e];simp)
      omega
     ·exact (List.mem_singleton.1 h).symm
    rw [e,hx]
  have hlen:((ks.map fun y=>mgetD m y z).length:Int) - 1=(init.length:Int):=by rw [hinit];simp
  have hnth:nthI (ks.map fun y=>mgetD m y z) (((ks.map fun y=>mgetD m y z).length:Int) - 1)=w:=by
   rw [hlen];exact jb (by rw [hinit];simp [k2])
  have hne:(((ks.map fun y=>mgetD m y z).length:Int)==0)=false:=by rw [hinit];simp;omega
  have hmode:=g.mode f2.1
  unfold ay.K1 at hj ⊢
  rw [hne,hnth] at hj ⊢
  simp only [cond_false,s9,ay.K2,List.nil_append] at hj ⊢
  rw [hnth] at hj ⊢
  rw [hbeg] at hj ⊢
  have hmm:w.Policy.Mode=1∨w.Policy.Mode=2∨w.Policy.Mode=3∨w.Policy.Mode=4:=by omega
  rcases hmm with e | e | e
  ·rw [e]
   have:judgesP 1=fq:=rfl
   rw [this]
   unfold fq
   cases hfb:FV begun known l with
   | none=>rfl
   | some a=>
    have hbm:begun∈ks:=by rw [← List.contains_iff_mem,hbeg,hfb];rfl
    obtain ⟨t0,ts,hts⟩:∃ t0 ts,ks=t0::ts:=by cases ks with
     | nil=>cases hbm
     | cons t0 ts=>exact ⟨t0,ts,rfl⟩
    have ht0:t0=begun:=by
     have q1:=inv.low t0 ((kin t0).1 (by rw [hts];exact List.mem_cons_self ..)).1
     rw [hts] at hbm krise
     rcases List.mem_cons.1 hbm with q | q
     ·exact q.symm
     ·have:=(List.pairwise_cons.1 krise).1 begun q;omega
    obtain ⟨v,a1,a2,_⟩:=kval begun hbm
    rw [hfb] at a2
    rw [(hF begun).2 a hfb,hts,ht0,List.map_cons,a1,← Option.some.inj a2]
    rfl
  ·rw [e]
   have:judgesP 2=fH:=rfl
   rw [this]
   unfold fH
   rw [show (((((ks.map fun y=>mgetD m y z).length:Int) - 1):Int)).toNat=init.length from by rw [hlen];omega,hinit,List.map_append,List.drop_left' (by simp)]
   simp only [List.map_cons,List.map_nil,k2]
   rfl
  ·have hP3:judgesP w.Policy.Mode=fI:=by rcases e with e | e <;> rw [e] <;> rfl
   have n1:(w.Policy.Mode==1)=false:=by rcases e with e | e <;> rw [e] <;> rfl
   have n2:(w.Policy.Mode==2)=false:=by rcases e with e | e <;> rw [e] <;> rfl
   rw [hP3] at hj ⊢
   rw [n1,n2]
   simp only [cond_false]
   unfold fI at hj ⊢
   congr 1
   obtain ⟨b1,b2⟩:=between27 l begun at_ known
   refine uv (fun x:Int=>x) b1 hj.rise fun n=>?_
   rw [b2,(iX _).mem_iff]
   simp only [List.mem_map]
   constructor
   ·rintro (⟨v,hv,hn⟩ | ⟨y,hy,⟨y1,y2⟩,v,hv,hn⟩)
    ·have hbm:begun∈ks:=by rw [← List.contains_iff_mem,hbeg,hv];rfl
     obtain ⟨u,a1,a2,_⟩:=kval begun hbm
     rw [hv] at a2
     exact ⟨u,⟨begun,hbm,a1⟩,by rw [← Option.some.inj a2];exact hn⟩
    ·have g1:=mg y.At known l none v (fun _ h=>by cases h) hv
     have g2:=g1.1.resolve_right (by simp)
     by_cases hvb:v.At≤begun
     ·have hfb:=yg (s:=begun) (by omega) l v hv hvb
      have hbm:begun∈ks:=by rw [← List.contains_iff_mem,hbeg,hfb];rfl
      obtain ⟨u,a1,a2,_⟩:=kval begun hbm
      rw [hfb] at a2
      exact ⟨u,⟨begun,hbm,a1⟩,by rw [← Option.some.inj a2];exact hn⟩
     ·have hm:v.At∈ks:=(kin v.At).2 ⟨(inv.has v.At (by omega)).2 ⟨v,g2.1,rfl,g2.2⟩,by have:=g1.2.1;omega⟩
      have hfv:=yg (s:=v.At) g1.2.1 l v hv (Int.le_refl _)
      obtain ⟨u,a1,a2,_⟩:=kval v.At hm
      rw [hfv] at a2
      exact ⟨u,⟨v.At,hm,a1⟩,by rw [← Option.some.inj a2];exact hn⟩
   ·rintro ⟨u,⟨t,htk,hu⟩,hn⟩
    obtain ⟨v,a1,a2,a3⟩:=kval t htk
    have huv:u=v:=hu.symm.trans a1
    rw [huv] at hn
    rcases a3 with q | ⟨q1,q2⟩
    ·subst q;exact .inl ⟨v,a2,hn⟩
    ·have g1:=mg t known l none v (fun _ h=>by cases h) a2
     have g2:=g1.1.resolve_right (by simp)
     exact .inr ⟨v,g2.1,⟨by omega,by have:=((kin t).1 htk).2;omega⟩,v,by rw [q2];exact a2,hn⟩
theorem Jg (s:ByteArray):fE s=de s:=by
 rw [Bool.eq_iff_iff]
 refine ⟨FM,fun h=>?_⟩
 unfold de at h
 unfold fE
 rw [vF,Co] at h
 rw [Bool.cond_eq_ite] at h ⊢
 split at h
 ·cases h
 ·next hc=>
  simp only [Bool.or_eq_true,not_or,decide_eq_true_eq,Bool.not_eq_true] at hc
  obtain ⟨⟨h1,h2⟩,h3⟩:=hc
  have hs:¬ ((s.size:Int) < 1):=fun hlt=>by
   have h9:=ql s
   have:s.toList=[]:=List.length_eq_zero_iff.1 (by omega)
   rw [this] at h1
   have e2:(⟨#[]⟩:ByteArray).toList=[]:=by
    have:=ql (⟨#[]⟩:ByteArray)
    exact List.length_eq_zero_iff.1 this
   rw [e2] at h1;simp at h1
  rw [if_neg]
  ·exact h
  ·simp only [Bool.or_eq_true,not_or,decide_eq_true_eq]
   exact ⟨⟨hs,h2⟩,by simpa using h3⟩
theorem F2 (s:ByteArray):kC s=db s:=by
 rw [BK];unfold kC;rw [Jg]
theorem xn (l:List ByteArray):dL l=bn l db:=by
 have key:∀ (L l:List ByteArray) (i:Nat),dL.L1 L dL.K1 l i=bn.L1 L db bn.K1 l i:=by
  intro L l
  induction l with
  | nil=>intros;rfl
  | cons y l ih=>intro i;simp only [dL.L1,bn.L1,F2,rindex,ih]
 exact key l l 0
theorem zg (off:List ByteArray) (x:Expr):(∀ z∈aY x 1,((!(cA z.x))||cq off z.x.Name)=true)→bA off x=true:=by
 refine Expr.ind (P:=fun x=>(∀ z∈aY x 1,((!(cA z.x))||cq off z.x.Name)=true)→bA off x=true) ?_ x
 intro x ih h
 have h:=(nf (fun y=>((!(cA y))||cq off y.Name)=true) x 1).1 h
 rw [DE]
 unfold bA.F
 have hx:=h.1
 unfold cA cq at hx
 rw [Bool.cond_eq_ite,if_neg]
 ·have:∀ l:List Expr,(∀ y∈l,bA off y=true)→bA.L1 bA off bA.K1 l=true:=by
   intro l
   induction l with
   | nil=>intro _;rfl
   | cons y l ih2=>
    intro hl
    simp only [bA.L1,hl y (List.mem_cons_self ..),Bool.not_true,cond_false]
    exact ih2 fun z hz=>hl z (List.mem_cons_of_mem _ hz)
  exact this x.L fun y hy=>ih y hy (h.2 y hy)
 ·rw [rindex]
  simp only [Bool.and_eq_true,decide_eq_true_eq,not_and]
  intro hk hi
  rw [hk] at hx
  simp only [Bool.not_true,Bool.false_or,decide_eq_true_eq] at hx
  omega
theorem zR {x:Expr} {u:Bool} (h:(aH x.Kind 1 4&&kindsP x.Kind x)=true) (h4:u=false→x.Kind≠4):aA.K1 x u=true:=by
 simp only [Bool.and_eq_true] at h
 have hb:1≤x.Kind∧x.Kind≤4:=by have:=h.1;simpa [aH] using this
 have hc:x.Kind=1∨x.Kind=2∨x.Kind=3∨x.Kind=4:=by omega
 have h2:=h.2
 unfold aA.K1
 rcases hc with e | e | e | e
 ·rw [e] at h2 ⊢
  have h2:ir x=true:=h2
  unfold ir at h2
  rw [show ((1:Int)==1)=true from rfl,cond_true];exact h2
 ·rw [e] at h2 ⊢
  have h2:iq x=true:=h2
  unfold iq aH at h2
  rw [show ((2:Int)==1)=false from rfl,show ((2:Int)==2)=true from rfl,cond_false,cond_true];exact h2
 ·rw [e] at h2 ⊢
  have h2:ip x=true:=h2
  unfold ip aH at h2
  rw [show ((3:Int)==1)=false from rfl,show ((3:Int)==2)=false from rfl,show ((3:Int)==3)=true from rfl,cond_false,cond_false,cond_true]
  simp only [Bool.and_eq_true] at h2 ⊢
  exact ⟨⟨⟨⟨h2.1.1,h2.1.2.1⟩,h2.1.2.2⟩,h2.2.1⟩,h2.2.2⟩
 ·have hu:u=true:=by
   cases u with
   | true=>rfl
   | false=>exact absurd e (h4 rfl)
  subst hu
  rw [e] at h2 ⊢
  have h2:gQ x=true:=h2
  unfold gQ aH at h2
  rw [show ((4:Int)==1)=false from rfl,show ((4:Int)==2)=false from rfl,show ((4:Int)==3)=false from rfl,show ((4:Int)==4)=true from rfl,cond_false,cond_false,cond_false,cond_true]
  simp only [Bool.and_eq_true] at h2 ⊢
  exact ⟨⟨⟨⟨trivial,h2.1.1⟩,h2.1.2⟩,h2.2.1⟩,h2.2.2⟩
theorem xi (u:Bool) (x:Expr):(∀ z∈aY x 1,(aH z.x.Kind 1 4&&kindsP z.x.Kind z.x)=true∧(u=false→z.x.Kind≠4))→aA x u=true:=by
 refine Expr.ind (P:=fun x=>(∀ z∈aY x 1,(aH z.x.Kind 1 4&&kindsP z.x.Kind z.x)=true∧(u=false→z.x.Kind≠4))→aA x u=true) ?_ x
 intro x ih h
 have h:=(nf (fun y=>(aH y.Kind 1 4&&kindsP y.Kind y)=true∧(u=false→y.Kind≠4)) x 1).1 h
 rw [BM]
 unfold aA.F
 have:∀ (k:Bool) (l:List Expr),(∀ y∈l,aA y u=true)→aA.L1 aA u k l=k:=by
  intro k l
  induction l with
  | nil=>intro _;rfl
  | cons y l ih2=>
   intro hl
   simp only [aA.L1,hl y (List.mem_cons_self ..),Bool.not_true,cond_false]
   exact ih2 fun z hz=>hl z (List.mem_cons_of_mem _ hz)
 rw [this _ x.L fun y hy=>ih y hy (h.2 y hy)]
 exact zR h.1.1 h.1.2
theorem GI (l:List Expr):∀ a:Int,aV.L1 aV (fun g=>g) l a=a∨∃ y∈l,aV.L1 aV (fun g=>g) l a=aV y:=by
 induction l with
 | nil=>intro a;exact .inl rfl
 | cons y l ih=>
  intro a
  simp only [aV.L1]
  rcases ih (max a (aV y)) with h | ⟨z,hz,h⟩
  ·rw [h]
   rcases Int.le_total a (aV y) with q | q
   ·exact .inr ⟨y,List.mem_cons_self ..,by omega⟩
   ·exact .inl (by omega)
  ·exact .inr ⟨z,List.mem_cons_of_mem _ hz,h⟩
theorem zY (x:Expr):x.dep≤1500000→∀ d:Int,∃ z∈aY x d,z.depth=d+aV x - 1:=by
 refine Expr.ind (P:=fun x=>x.dep≤1500000→∀ d:Int,∃ z∈aY x d,z.depth=d+aV x - 1) ?_ x
 intro x ih hx d
 have hd:=(Em x hx).2
 rw [lr]
 rcases GI x.L 0 with h | ⟨y,hy,h⟩
 ·exact ⟨⟨x,d⟩,List.mem_cons_self ..,by rw [hd,h];show d=d+(0+1) - 1;omega⟩
 ·have hlt:=Expr.gk hy
  obtain ⟨z,hz,e⟩:=ih y hy (by omega) (d+1)
  exact ⟨z,List.mem_cons_of_mem _ (List.mem_flatMap.2 ⟨y,hy,hz⟩),by rw [e,hd,h];omega⟩
theorem EW {x:Expr} (hx:x.dep≤1500000) (h1:(aY x 1).length≤256) (h2:∀ z∈aY x 1,z.depth≤16):il x=false:=by
 unfold il
 rw [BQ x 256 (by decide) (by decide)]
 obtain ⟨z,hz,e⟩:=zY x hx 1
 have:=h2 z hz
 have hc:cnt x≤256:=h1
 simp only [Bool.or_eq_false_iff,decide_eq_false_iff_not]
 exact ⟨by omega,by omega⟩
theorem Gq (off:List ByteArray) (x:Expr):(∀ z∈aY x 1,z.x.No=rno off z.x)→aU (aa off x) x=true:=by
 refine Expr.ind (P:=fun x=>(∀ z∈aY x 1,z.x.No=rno off z.x)→aU (aa off x) x=true) ?_ x
 intro x ih h
 have h:=(nf (fun y=>y.No=rno off y) x 1).1 h
 rw [FH,wZ]
 unfold aU.F
 have e:(((((x.Kind != x.Kind)||(x.N != x.N))||(rno off x != x.No))||(!(x.Name.toList==x.Name.toList)))||(((x.L.map (aa off)).length:Int) != (x.L.length:Int)))=false:=by simp [h.1]
 show (bif (((((x.Kind != x.Kind)||(x.N != x.N))||(rno off x != x.No))||(!(x.Name.toList==x.Name.toList)))||(((x.L.map (aa off)).length:Int) != (x.L.length:Int))) then false else aU.L1 aU x aU.K1 (x.L.map (aa off)) 0)=true
 rw [e,cond_false]
 have:∀ (l pre:List Expr),x.L=pre++l→aU.L1 aU x aU.K1 (l.map (aa off)) pre.length=true:=by
  intro l
  induction l with
  | nil=>intro _ _;rfl
  | cons y l ih2=>
   intro pre hp
   have hy:nthI x.L (pre.length:Int)=y:=jb (by rw [hp];simp)
   have hm:y∈x.L:=by rw [hp];simp
   have:=ih2 (pre++[y]) (by rw [hp];simp)
   rw [List.length_append,List.length_cons,List.length_nil,Nat.zero_add] at this
   simp only [List.map_cons,aU.L1,hy,ih y hm (h.2 y hm),Bool.not_true,cond_false]
   exact this
 exact this x.L [] rfl
theorem yt (l:List ByteArray):dG l l=true:=by
 have:∀ (s pre:List ByteArray),l=pre++s→dG.L1 l dG.K1 s pre.length=true:=by
  intro s
  induction s with
  | nil=>intro _ _;rfl
  | cons y s ih=>
   intro pre hp
   have hy:nthI l (pre.length:Int)=y:=jb (by rw [hp];simp)
   have:=ih (pre++[y]) (by rw [hp];simp)
   rw [List.length_append,List.length_cons,List.length_nil,Nat.zero_add] at this
   simp only [dG.L1,hy,beq_self_eq_true,Bool.not_true,cond_false]
   exact this
 unfold dG
 rw [bne_self_eq_false,cond_false]
 exact this l [] rfl
theorem yB (off:List ByteArray):∀ (l:List Rule) (i:Nat),(rrules off l i).length=l.length
 | [],_=>rfl
 | y::l,i=>by simp only [rrules,List.length_cons,yB off l]
theorem Aa {p:Policy} (hs:smP p) (h:bZ p=0):ed p=0:=by
 obtain ⟨h1,h2,h3⟩:=(vG p).1 h
 obtain ⟨s1,s2,s3⟩:=(oZ p).1 h1
 obtain ⟨⟨a1,a2,a3⟩,a4⟩:=(uW p).1 s1
 obtain ⟨⟨n1,n2,n3⟩,n4⟩:=(zf p).1 s2
 unfold aX aX.K1 aX.K2 at s3
 rw [ng,vw,yc] at s3
 obtain ⟨f1,f2,f3⟩:=s3
 simp only [Bool.and_eq_true,decide_eq_true_eq,beq_iff_eq,aH] at f1
 have hlen:(ai p).length=p.Rules.length+1:=by rw [ku];simp
 have hrule:∀ r∈p.Rules,r.Expr∈ai p:=fun r hr=>uE hr
 have hch:p.Change∈ai p:=by rw [ku];simp
 have hdep:∀ x∈ai p,x.dep≤1500000:=fun x hx=>by
  rw [ku] at hx
  simp only [List.mem_append,List.mem_map,List.mem_singleton] at hx
  rcases hx with ⟨r,hr,rfl⟩ | rfl
  ·exact hs.2.1 r hr
  ·exact hs.2.2.1
 have hlarge:∀ x∈ai p,il x=false:=fun x hx=>EW (hdep x hx) (a4 x hx).1 (a4 x hx).2
 have hT:eu p=false:=by
  unfold eu
  rw [Bool.cond_eq_ite,if_neg]
  ·have:∀ l:List Rule,(∀ r∈l,il r.Expr=false)→eu.L1 eu.K1 l=false:=by
    intro l
    induction l with
    | nil=>intro _;rfl
    | cons y l ih=>
     intro hl
     simp only [eu.L1,hl y (List.mem_cons_self ..),cond_false]
     exact ih fun z hz=>hl z (List.mem_cons_of_mem _ hz)
   exact this p.Rules fun r hr=>hlarge _ (hrule r hr)
  ·simp only [Bool.or_eq_true,decide_eq_true_eq,not_or,hlarge _ hch,Bool.false_eq_true,not_false_eq_true,and_true]
   omega
 have hN:fJ p=true:=by
  unfold fJ
  rw [F2,xn,xn,n1,n2,n3]
  simp only [Bool.not_true,Bool.or_self,cond_false]
  have:∀ (k:Bool) (l:List Rule),(∀ r∈l,bA p.Offices r.Expr=true)→fJ.L1 p k l=k:=by
   intro k l
   induction l with
   | nil=>intro _;rfl
   | cons y l ih=>
    intro hl
    simp only [fJ.L1,hl y (List.mem_cons_self ..),Bool.not_true,cond_false]
    exact ih fun z hz=>hl z (List.mem_cons_of_mem _ hz)
  rw [this _ p.Rules fun r hr=>zg p.Offices _ (n4 _ (hrule r hr))]
  exact zg p.Offices _ (n4 _ hch)
 have hget:∀ (j:Nat) (r:Rule),p.Rules[j]? = some r→(ai p)[j]? = some r.Expr:=fun j r hj=>by
  have hlt:=(List.getElem?_eq_some_iff.1 hj).1
  rw [ku,List.getElem?_append_left (by simpa using hlt),List.getElem?_map,hj];rfl
 have hgetc:(ai p)[p.Rules.length]? = some p.Change:=by
  rw [ku,List.getElem?_append_right (by simp)];simp
 have hFm:e5 p=true:=by
  unfold e5
  rw [Bool.cond_eq_ite,if_neg]
  ·have:∀ (l pre:List Rule),p.Rules=pre++l→e5.L1 p (e5.K1 p) l pre.length=true:=by
    intro l
    induction l with
    | nil=>
     intro pre _
     refine xi false _ fun z hz=>?_
     obtain ⟨q1,q2⟩:=f3 _ _ hgetc z hz
     refine ⟨q1,fun _ he=>?_⟩
     rw [hlen,wrap64 (by omega),Nat.zero_add] at q2
     have e1:decide ((p.Rules.length:Int) < ((p.Rules.length+1:Nat):Int) - 1)=false:=decide_eq_false (by omega)
     rw [e1,Bool.false_or,he] at q2
     simp at q2
    | cons y l ih=>
     intro pre hp
     have hj:p.Rules[pre.length]? = some y:=by rw [hp];simp
     have q:=f2 pre.length y hj
     rw [Nat.zero_add] at q
     simp only [Bool.and_eq_true,aH,decide_eq_true_eq] at q
     have hfe:aA y.Expr true=true:=xi true _ fun z hz=>⟨(f3 _ _ (hget _ _ hj) z hz).1,fun hh=>by cases hh⟩
     have d1:decide (y.Think < 0)=false:=by simp;omega
     have d2:decide (1099511627776≤y.Think)=false:=by simp;omega
     have:=ih (pre++[y]) (by rw [hp];simp)
     rw [List.length_append,List.length_cons,List.length_nil,Nat.zero_add] at this
     simp only [e5.L1,q.1,d1,d2,hfe,Bool.not_true,Bool.or_self,cond_false]
     exact this
   exact this p.Rules [] rfl
  ·simp only [Bool.or_eq_true,decide_eq_true_eq,bne_iff_ne,not_or,ne_eq,Decidable.not_not]
   omega
 have hRes:dh p=(Policy.mk p.Name p.Kinds p.Offices (rrules p.Offices p.Rules 0) (aa p.Offices p.Change) p.Mode,0):=by
  unfold dh
  rw [hT,hN,hFm]
  simp only [cond_false,Bool.not_true]
  rw [uN,List.nil_append]
 have hsame:∀ x,bD p.Offices x=true→aU (aa p.Offices x) x=true:=fun x hx=>by
  refine Gq p.Offices x ?_
  unfold bD bD.K1 at hx
  exact (nk p.Offices _).1 hx
 have hSame:fY (Policy.mk p.Name p.Kinds p.Offices (rrules p.Offices p.Rules 0) (aa p.Offices p.Change) p.Mode) p=true:=by
  unfold fY
  rw [Bool.cond_eq_ite,if_neg]
  ·have:∀ (l pre:List Rule),p.Rules=pre++l→fY.L1 p fY.K1 (rrules p.Offices l pre.length) pre.length=true:=by
    intro l
    induction l with
    | nil=>intro _ _;rfl
    | cons y l ih=>
     intro pre hp
     have hy:nthI p.Rules (pre.length:Int)=y:=jb (by rw [hp];simp)
     have hj:p.Rules[pre.length]? = some y:=by rw [hp];simp
     obtain ⟨g1,g2⟩:=h2 pre.length y hj
     have:=ih (pre++[y]) (by rw [hp];simp)
     rw [List.length_append,List.length_cons,List.length_nil,Nat.zero_add] at this
     simp only [rrules,fY.L1,hy,hsame _ g2,g1,beq_self_eq_true,bne_self_eq_false,Bool.not_true,Bool.or_self,cond_false]
     exact this
   exact this p.Rules [] rfl
  ·show ¬ ((((((!(p.Name.toList==p.Name.toList))||(p.Mode != p.Mode))||(!(dG p.Offices p.Offices)))||(!(dG p.Kinds p.Kinds)))||(((rrules p.Offices p.Rules 0).length:Int) != (p.Rules.length:Int)))||(!(aU (aa p.Offices p.Change) p.Change)))=true
   rw [yt,yt,yB,hsame _ h3]
   simp
 unfold ed
 rw [hRes]
 dsimp only
 rw [hSame];rfl
theorem tW {l:List Version} (hs:smV l) (h:bg l=0):cw l=0:=by
 have g:=(je l).1 h
 have hlen:=g.len
 unfold cw
 rw [Bool.cond_eq_ite,if_neg (by simp;omega)]
 have:∀ (s pre:List Version),l=pre++s→cw.L1 l cw.K1 s pre.length=0:=by
  intro s
  induction s with
  | nil=>intro _ _;rfl
  | cons y s ih=>
   intro pre hp
   have hy:y∈l:=by rw [hp];simp
   obtain ⟨q1,q2,q3,q4⟩:=g.each y hy
   have hlast:(decide (0 < (pre.length:Int))&&decide (y.No≤(nthI l ((pre.length:Int) - 1)).No))=false:=by
    rcases List.eq_nil_or_concat pre with rfl | ⟨a,x,e⟩
    ·rfl
    ·rw [List.concat_eq_append] at e
     subst e
     have hx:nthI l (((a++[x]).length:Int) - 1)=x:=by
      rw [show (((a++[x]).length:Int) - 1)=(a.length:Int) from by simp]
      exact jb (by rw [hp];simp)
     have hi:=g.inc
     rw [hp,List.pairwise_append] at hi
     have:=hi.2.2 x (by simp) y (List.mem_cons_self ..)
     rw [hx]
     have e2:decide (y.No≤x.No)=false:=by simp;omega
     rw [e2,Bool.and_false]
   have:=ih (pre++[y]) (by rw [hp];simp)
   rw [List.length_append,List.length_cons,List.length_nil,Nat.zero_add] at this
   simp only [cw.L1,Bool.cond_eq_ite]
   rw [if_neg]
   ·exact this
   ·have hck:=Aa (hs.2 y hy) q4
    simp only [Bool.or_eq_true,not_or,decide_eq_true_eq,Bool.and_eq_true,Bool.not_eq_true',Bool.not_eq_false,bne_iff_ne,ne_eq,Classical.not_not,cn,hck,and_true]
    simp only [Bool.and_eq_false_iff,decide_eq_false_iff_not] at hlast
    omega
 exact this l [] rfl
theorem qw {B:Int→Bool} {k:Bool} {L:List Int} (hB:∀ y∈L,B y=false) (hL:L.Pairwise (· < ·)) (hk:k=true):∀ (l pre:List Int),L=pre++l→refLs B L k l pre.length=true
 | [],_,_=>hk
 | y::l,pre,h=>by
  have hlast:(decide (0 < (pre.length:Int))&&decide (y≤nthI L ((pre.length:Int) - 1)))=false:=by
   rcases List.eq_nil_or_concat pre with rfl | ⟨a,x,e⟩
   ·rfl
   ·rw [List.concat_eq_append] at e
    subst e
    have hx:nthI L (((a++[x]).length:Int) - 1)=x:=by
     rw [show (((a++[x]).length:Int) - 1)=(a.length:Int) from by simp]
     exact jb (by rw [h];simp)
    have hi:=hL
    rw [h,List.pairwise_append] at hi
    have:=hi.2.2 x (by simp) y (List.mem_cons_self ..)
    rw [hx]
    have e2:decide (y≤x)=false:=by simp;omega
    rw [e2,Bool.and_false]
  have ih:=qw hB hL hk l (pre++[y]) (by rw [h];simp)
  rw [List.length_append,List.length_cons,List.length_nil,Nat.zero_add] at ih
  have hy:y∈L:=by rw [h];simp
  simp only [refLs,hB y hy,hlast,Bool.or_self,cond_false]
  exact ih
theorem uh {l:List Int} {limit:Int} (h:((∀ x∈l,0≤x∧x < limit)∧l.Pairwise (· < ·))∧l.length≤16):dS l limit=true:=by
 have e:∀ (L l:List Int) i,dS.L1 L limit (dS.K1 L) l i=refLs (fun y=>decide (y < 0)||decide (limit≤y)) L (dS.K1 L) l i:=by
  intro L l
  induction l with
  | nil=>intro i;rfl
  | cons y l ih=>intro i;simp only [dS.L1,refLs,ih]
 unfold dS
 rw [e]
 refine qw (fun y hy=>?_) h.1.2 ?_ l [] rfl
 ·have:=h.1.1 y hy
  simp only [Bool.or_eq_false_iff,decide_eq_false_iff_not];omega
 ·unfold dS.K1;rw [decide_eq_true_eq];omega
theorem people21 {l:List Int}:df l=true↔(∀ x∈l,0≤x∧x < 64)∧l.Pairwise (· < ·):=by
 refine ⟨EP,fun h=>?_⟩
 have e:∀ (L l:List Int) i,df.L1 L df.K1 l i=refLs (fun y=>decide (y < 0)||decide (64≤y)) L true l i:=by
  intro L l
  induction l with
  | nil=>intro i;rfl
  | cons y l ih=>intro i;simp only [df.L1,refLs,ih]
 unfold df
 rw [e]
 refine qw (fun y hy=>?_) h.2 rfl l [] rfl
 have:=h.1 y hy
 simp only [Bool.or_eq_false_iff,decide_eq_false_iff_not];omega
theorem tM:∀ (l:List Int) (g:Int),fo.L1 fo.K1 l g=true→(∀ x∈l,g < x∧x < 64)∧l.Pairwise (· < ·)
 | [],_,_=>⟨fun _ h=>(List.not_mem_nil h).elim,List.Pairwise.nil⟩
 | y::l,g,h=>by
  simp only [fo.L1,Bool.cond_eq_ite] at h
  split at h
  ·cases h
  ·next hc=>
   simp only [Bool.or_eq_true,decide_eq_true_eq,not_or] at hc
   obtain ⟨h1,h2⟩:=tM l y h
   refine ⟨fun x hx=>?_,List.pairwise_cons.2 ⟨fun x hx=>(h1 x hx).1,h2⟩⟩
   rcases List.mem_cons.1 hx with rfl | hx
   ·omega
   ·have:=h1 x hx;omega
theorem Ey {l:List Int}:fo l=true↔(∀ x∈l,0≤x∧x < 64)∧l.Pairwise (· < ·):=by
 refine ⟨fun h=>?_,Af⟩
 obtain ⟨h1,h2⟩:=tM l (-1) h
 exact ⟨fun x hx=>by have:=h1 x hx;omega,h2⟩
theorem apeople21 (l:List Int):fo l=df l:=by
 rw [Bool.eq_iff_iff,Ey,people21]
theorem BN (no:Int):∀ (l:List Document) (i:Nat),(l.any fun d=>d.No==no)=true→0≤fD.L1 no fD.K1 l i
 | [],i,h=>by cases h
 | y::l,i,h=>by
  simp only [fD.L1,Bool.cond_eq_ite]
  split
  ·omega
  ·next hc=>
   rw [List.any_cons,Bool.eq_false_iff.2 hc,Bool.false_or] at h
   exact BN no l (i+1) h
theorem yk (L:List Document):∀ nos:List Int,(∀ x∈nos,(L.any fun d=>d.No==x)=true)→cE.L1 L cE.K1 nos=true
 | [],_=>rfl
 | y::nos,h=>by
  have h1:=BN y L 0 (h y (List.mem_cons_self ..))
  have:decide (fD L y < 0)=false:=by unfold fD;simp;omega
  simp only [cE.L1,this,cond_false]
  exact yk L nos fun x hx=>h x (List.mem_cons_of_mem _ hx)
theorem H9 {L:List Document} {d:Document} (h:dT (bi L) d=true):cE L d.Revokes=true∧cE L d.Needs=true:=by
 have hs:=(yp L L 0 []).2
 have key:∀ nos:List Int,cU nos (fun dX=>dI dX (bi L))=false→cE L nos=true:=by
  intro nos hn
  rw [containsF,List.any_eq_false] at hn
  refine yk L nos fun x hx=>?_
  have h1:=hn x hx
  unfold dI at h1
  have e:mhas (bi L).at_ x=(mhas [] x||L.any fun d=>d.No==x):=hs x
  rw [e] at h1
  simpa [mhas,mget?] using h1
 unfold dT at h
 simp only [Bool.and_eq_true,Bool.not_eq_true'] at h
 exact ⟨key _ h.1,key _ h.2⟩
theorem zW {l:List Document} (h:bH l=0):eZ l=0:=by
 have L:∀ (L l:List Document) (i:Nat),bH.L1 L bH.K1 l i=0→eZ.L1 L eZ.K1 l i=0:=by
  intro L l
  induction l with
  | nil=>intros;rfl
  | cons y l ih=>
   intro i h
   simp only [bH.L1,Bool.cond_eq_ite] at h
   split at h
   ·omega
   ·next hc=>
    simp only [Bool.or_eq_true,not_or,Bool.not_eq_true',Bool.not_eq_false,Bool.not_eq_true] at hc
    obtain ⟨⟨c1,c2⟩,c3⟩:=hc
    obtain ⟨t1,t2⟩:=H9 c3
    have hR:gL y=true:=by
     simp only [fG,Bool.and_eq_true,decide_eq_true_eq,jd] at c1
     obtain ⟨⟨⟨⟨⟨⟨⟨⟨⟨⟨⟨⟨p1,p2⟩,p3⟩,p4⟩,p5⟩,p6⟩,p7⟩,p8⟩,p9⟩,p10⟩,p11⟩,p12⟩,p13⟩:=c1
     unfold gL
     rw [Bool.cond_eq_ite,if_neg]
     ·rw [uh ((xX _ _).1 p11),uh ((xX _ _).1 p12),uh ((xX _ _).1 p13)]
      simp only [Bool.and_eq_true,decide_eq_true_eq,Bool.and_true]
      exact ⟨⟨p8,p9⟩,p10⟩
     ·simp only [mn,Bool.or_eq_true,decide_eq_true_eq,Bool.not_eq_true',Bool.and_eq_false_iff,decide_eq_false_iff_not,not_or]
      omega
    simp only [eZ.L1,hR,c2,t1,t2,Bool.not_true,Bool.or_false,Bool.or_self,cond_false]
    exact ih (i+1) h
 unfold bH at h
 unfold eZ
 rw [Bool.cond_eq_ite] at h ⊢
 split at h
 ·omega
 ·next hc=>rw [if_neg hc];exact L l l 0 h
theorem judge30 {r:Register} (hs:smR r):eP r=0↔gU r=0:=by
 constructor
 ·intro h
  obtain ⟨d1,d2,d3,d4,d5,d6,d7⟩:=(oB r).1 h
  simp only [gU,(ns r.Appoints).symm.trans d1,(vB r.Deputies).symm.trans d2,(kQ r.Interests).symm.trans d3,(xw r.Budgets).symm.trans d4,tW hs.vers d5,zW d6,(ua r.Approvals).symm.trans d7]
  rfl
 ·intro h
  obtain ⟨c1,c2,c3,c4,c5,c6,c7⟩:=Er h
  exact (oB r).2 ⟨(ns r.Appoints).trans c1,(vB _).trans c2,(kQ r.Interests).trans c3,(xw _).trans c4,Et hs.vers c5,AJ c6,(ua _).trans c7⟩
def wtOk (y:Holder):Bool:=!(decide (y.Weight < 1)||decide (64 < y.Weight))
theorem JB (k:List Int→Bool):∀ (l:List Holder) (g:List Int),cd.L3 k l g=(l.all wtOk&&k (g++l.map (·.Person)))
 | [],g=>by simp [cd.L3]
 | y::l,g=>by
  simp only [cd.L3,List.all_cons,List.map_cons,JB k l,wtOk]
  cases decide (y.Weight < 1)||decide (64 < y.Weight) <;> simp
def rowOk (l:List Holder):Bool:=l.all wtOk&&cv (l.map (·.Person))
theorem JC (k:Bool):∀ hs:List (List Holder),cd.L1 k hs=(hs.all rowOk&&k)
 | []=>by simp [cd.L1]
 | l::hs=>by
  simp only [cd.L1,JB,JC k hs,List.all_cons,rowOk,List.nil_append]
  cases l.all wtOk <;> cases cv (l.map (·.Person)) <;> simp
theorem HO (k:Bool) (L:List Holder):∀ (l pre:List Holder) (g:Int),L=pre++l→(pre=[]∧g=-1)∨(0≤g∧∃ a z,pre=a++[z]∧g=z.Person) →
  da.L3 L k l pre.length=((l.all wtOk&&cv.L1 cv.K1 (l.map (·.Person)) g)&&k)
 | [],_,_,_,_=>by simp [da.L3,cv.L1,cv.K1]
 | y::l,pre,g,e,hg=>by
  have hc:(decide (y.Person < 0)||(decide (0 < (pre.length:Int))&&decide (y.Person≤(nthI L ((pre.length:Int) - 1)).Person)))=decide (y.Person≤g):=by
   rcases hg with ⟨rfl,rfl⟩ | ⟨h0,a,z,rfl,rfl⟩
   ·simp;omega
   ·have hx:nthI L (((a++[z]).length:Int) - 1)=z:=by
     rw [show (((a++[z]).length:Int) - 1)=(a.length:Int) from by simp]
     exact jb (by rw [e];simp)
    rw [hx,Bool.eq_iff_iff]
    simp only [List.length_append,List.length_cons,List.length_nil,Bool.or_eq_true,Bool.and_eq_true,decide_eq_true_eq]
    omega
  have ih:=fun hy:0≤y.Person=>HO k L l (pre++[y]) y.Person (by rw [e];simp) (.inr ⟨hy,pre,y,rfl,rfl⟩)
  rw [List.length_append,List.length_cons,List.length_nil,Nat.zero_add] at ih
  simp only [da.L3,List.all_cons,List.map_cons,cv.L1,wtOk]
  rw [show (((((decide (y.Person < 0)||decide (64≤y.Person))||decide (y.Weight < 1))||decide (64 < y.Weight))||(decide (0 < (pre.length:Int))&&decide (y.Person≤(nthI L ((pre.length:Int) - 1)).Person)))) =
   ((decide (y.Person≤g)||decide (64≤y.Person))||(decide (y.Weight < 1)||decide (64 < y.Weight))) from by
    rw [← hc]
    cases decide (y.Person < 0) <;> cases decide (64≤y.Person) <;> cases decide (y.Weight < 1) <;> cases decide (64 < y.Weight) <;> simp]
  cases h1:(decide (y.Person≤g)||decide (64≤y.Person)) <;> cases h2:(decide (y.Weight < 1)||decide (64 < y.Weight)) <;> simp only [Bool.or_true,Bool.or_false,Bool.true_or,Bool.false_or,cond_true,cond_false,Bool.not_true,Bool.not_false,Bool.true_and,Bool.false_and,Bool.and_false,Bool.or_self]
  rw [ih (by
   simp only [Bool.or_eq_false_iff,decide_eq_false_iff_not] at h1
   rcases hg with ⟨_,rfl⟩ | ⟨h0,_⟩ <;> omega)]
theorem HP (k:Bool):∀ hs:List (List Holder),da.L1 k hs=(hs.all rowOk&&k)
 | []=>by simp [da.L1]
 | l::hs=>by
  simp only [da.L1,List.all_cons]
  have:=HO (da.L1 k hs) l l [] (-1) rfl (.inl ⟨rfl,rfl⟩)
  rw [List.length_nil] at this
  rw [this,HP k hs,rowOk,cv]
  simp only [Bool.and_assoc]
theorem right21 (hs:List (List Holder)) (n:Int):cd hs n=da hs n:=by
 unfold cd da
 rw [JC,HP,cd.K1,da.K1]
 cases e:((hs.length:Int)==n) with
 | true=>rw [show ((hs.length:Int) != n)=false from by rw [bne,e];rfl];rfl
 | false=>rw [show ((hs.length:Int) != n)=true from by rw [bne,e];rfl,Bool.and_false];rfl
theorem ppeople21 (l:List Int):cv l=df l:=by
 rw [Bool.eq_iff_iff,Bo,people21]
theorem check20 {p:Policy} (hs:smP p):bZ p=0↔ed p=0:=⟨Aa hs,vH hs⟩
theorem permits21 {p:Policy} {kind value:Int} {hs:List (List Holder)} {w:List Int} (hp:smP p) (hl:∀ l∈hs,l.length≤2000000):
  (bW p kind value hs w).1=(fK p kind value hs w).1∧((bW p kind value hs w).2=0↔(fK p kind value hs w).2=0):=by
 unfold bW fK
 have h1:=check20 hp
 by_cases hc:bZ p=0
 ·rw [hc,h1.1 hc,← right21,← ppeople21]
  simp only [bne_self_eq_false,cond_false]
  cases hk:(((decide (kind < 0)||decide ((p.Kinds.length:Int)≤kind))||decide (value < 0))||decide (1099511627776 < value)) with
  | true=>simp
  | false=>
   cases hr:cd hs (p.Offices.length:Int) with
   | false=>simp
   | true=>
    cases hw:cv w with
    | false=>simp
    | true=>
     obtain ⟨a1,a2,a3⟩:=mz hc
     simp only [Bool.or_eq_false_iff,decide_eq_false_iff_not] at hk
     have hm:nthI p.Rules kind∈p.Rules:=fm (by rw [a1];omega)
     have ho:OkX (p.Offices.length:Int) (nthI p.Rules kind).Expr:=a3 _ (by rw [ku];exact List.mem_append_left _ (List.mem_map_of_mem hm))
     have hd:=hp.2.1 _ hm
     simp only [Bool.not_true,cond_false,ck,ba]
     rw [fulfil21 (rightH hr) hl _ _ (by omega) ho]
     exact ⟨rfl,trivial⟩
 ·have hc2:ed p≠0:=fun h=>hc (h1.2 h)
  rw [show (bZ p != 0)=true from by simp [hc],show (ed p != 0)=true from by simp [hc2]]
  simp only [cond_true]
  exact ⟨trivial,fun h=>(hc h).elim,fun h=>(hc2 h).elim⟩
theorem H0 {α : Type} {f:α→Int}:∀ {l:List α},l.Pairwise (fun a b=>f a < f b)→∀ {a b:α},a∈l→b∈l→f a=f b→a=b
 | [],_,_,_,ha,_,_=>(List.not_mem_nil ha).elim
 | y::l,h,a,b,ha,hb,e=>by
  rw [List.pairwise_cons] at h
  rcases List.mem_cons.1 ha with e1 | ha2
  ·rcases List.mem_cons.1 hb with e2 | hb2
   ·rw [e1,e2]
   ·have:=h.1 b hb2;rw [e1] at e;omega
  ·rcases List.mem_cons.1 hb with e2 | hb2
   ·have:=h.1 a ha2;rw [e2] at e;omega
   ·exact H0 h.2 ha2 hb2 e
def sKey (y:Interest):cm:=cm.mk y.Person y.Party y.Of
def sCnt (t known:Int) (y:Interest):Prop:=y.At≤t∧y.Known≤known
def sOver (z w:Interest):Prop:=z.At < w.At∨(w.At=z.At∧z.No < w.No)
structure BP (t known:Int) (pre:List Interest) (m:List (cm×Interest)):Prop where
 some:∀ k z,mget? m k=some z→z∈pre∧sKey z=k∧sCnt t known z∧∀ w∈pre,sKey w=k→sCnt t known w→¬ sOver z w
 none:∀ k,mget? m k=none→∀ w∈pre,sKey w=k→¬ sCnt t known w
theorem Ba {t known:Int}:∀ (l pre:List Interest) (m:List (cm×Interest)),(pre++l).Pairwise (fun a b=>a.No < b.No)→BP t known pre m→BP t known (pre++l) (stMap t known l m)
 | [],pre,m,_,h=>by rw [List.append_nil];exact h
 | y::l,pre,m,hp,h=>by
  have hno:∀ w∈pre,w.No < y.No:=fun w hw=>(List.pairwise_append.1 hp).2.2 w hw y (List.mem_cons_self ..)
  have hp2:((pre++[y])++l).Pairwise (fun a b=>a.No < b.No):=by rw [List.append_assoc];exact hp
  have go:∀ m',BP t known (pre++[y]) m'→BP t known (pre++y::l) (stMap t known l m'):=fun m' h'=>by
   have:=Ba l (pre++[y]) m' hp2 h'
   rwa [List.append_assoc] at this
  have stay:(∀ z,mget? m (sKey y)=some z→sCnt t known y→¬ sOver z y)→(mget? m (sKey y)=none→¬ sCnt t known y)→BP t known (pre++[y]) m:=fun h1 h2=>by
   constructor
   ·intro k z hz
    obtain ⟨a1,a2,a3,a4⟩:=h.some k z hz
    refine ⟨List.mem_append_left _ a1,a2,a3,fun w hw hk hc=>?_⟩
    rcases List.mem_append.1 hw with hw | hw
    ·exact a4 w hw hk hc
    ·rw [List.mem_singleton.1 hw] at hk hc ⊢
     exact h1 z (by rw [hk];exact hz) hc
   ·intro k hz w hw hk
    rcases List.mem_append.1 hw with hw | hw
    ·exact h.none k hz w hw hk
    ·rw [List.mem_singleton.1 hw] at hk ⊢
     exact h2 (by rw [hk];exact hz)
  simp only [stMap,Bool.cond_eq_ite]
  split
  ·next hc=>
   have hc:¬ sCnt t known y:=by
    simp only [Bool.or_eq_true,decide_eq_true_eq] at hc
    intro h;unfold sCnt at h;omega
   exact go m (stay (fun _ _ h=>(hc h).elim) (fun _=>hc))
  ·next hc=>
   have hc:sCnt t known y:=by
    simp only [Bool.or_eq_true,decide_eq_true_eq] at hc
    unfold sCnt;omega
   split
   ·next hn=>
    refine go _ ⟨fun k z hz=>?_,fun k hz w hw hk=>?_⟩
    ·rw [jQ] at hz
     split at hz
     ·next hk=>
      cases hz
      refine ⟨by simp,hk.symm,hc,fun w hw hkw hcw=>?_⟩
      rcases List.mem_append.1 hw with hw | hw
      ·have hb:=hno w hw
       cases hm:mget? m (sKey y) with
       | none=>exact (h.none _ hm w hw (by rw [hkw,hk];rfl) hcw).elim
       | some z0=>
        have a4:=(h.some _ _ hm).2.2.2 w hw (by rw [hkw,hk];rfl) hcw
        have:z0.At≤y.At:=by
         simp only [mhas,mgetD,show mget? m (cm.mk y.Person y.Party y.Of)=some z0 from hm] at hn
         simpa using hn
        unfold sOver at a4 ⊢;omega
      ·rw [List.mem_singleton.1 hw];unfold sOver;omega
     ·next hk=>
      obtain ⟨a1,a2,a3,a4⟩:=h.some k z hz
      refine ⟨List.mem_append_left _ a1,a2,a3,fun w hw hkw hcw=>?_⟩
      rcases List.mem_append.1 hw with hw | hw
      ·exact a4 w hw hkw hcw
      ·rw [List.mem_singleton.1 hw] at hkw;exact (hk hkw.symm).elim
    ·rw [jQ] at hz
     split at hz
     ·cases hz
     ·next hk2=>
      rcases List.mem_append.1 hw with hw | hw
      ·exact h.none k hz w hw hk
      ·rw [List.mem_singleton.1 hw] at hk;exact (hk2 hk.symm).elim
   ·next hn=>
    refine go m (stay (fun z hz _=>?_) (fun hz=>?_))
    ·have:¬ z.At≤y.At:=by
      simp only [mhas,mgetD,show mget? m (cm.mk y.Person y.Party y.Of)=some z from hz] at hn
      simpa using hn
     unfold sOver;omega
    ·simp only [mhas,mgetD,show mget? m (cm.mk y.Person y.Party y.Of)=none from hz] at hn
     simp at hn
theorem yn {x:Interest} {t known:Int}:∀ l:List Interest,eX.L1 x t known eX.K1 l=true↔∀ w∈l,sKey w=sKey x→sCnt t known w→¬ sOver x w
 | []=>by simp [eX.L1,eX.K1]
 | y::l=>by
  have ih:=yn (x:=x) (t:=t) (known:=known) l
  simp only [eX.L1,Bool.cond_eq_ite,List.forall_mem_cons]
  have e:(((iN y x)&&(fT y t known))&&(decide (x.At < y.At)||((y.At==x.At)&&decide (x.No < y.No))))=true↔sKey y=sKey x∧sCnt t known y∧sOver x y:=by
   simp only [iN,fT,Bool.and_eq_true,Bool.or_eq_true,beq_iff_eq,decide_eq_true_eq,sKey,sCnt,sOver,cm.mk.injEq,and_assoc]
  split
  ·next hc=>
   obtain ⟨a,b,c⟩:=e.1 hc
   constructor
   ·intro h;cases h
   ·intro h;exact (h.1 a b c).elim
  ·next hc=>
   rw [ih]
   constructor
   ·exact fun h=>⟨fun a b c=>hc (e.2 ⟨a,b,c⟩),h⟩
   ·exact fun h=>h.2
theorem standing29 {l:List Interest} {t known:Int} (ht:0≤t) (hk:0≤known) (hp:l.Pairwise (fun a b=>a.No < b.No)):bu l t known=l.filter (fun x=>eX l x t known):=by
 unfold bu
 rw [wS]
 unfold bu.K1 bo bo.K1
 have hv:BP t known l (stMap t known l []):=by
  have:=Ba (t:=t) (known:=known) l [] [] hp ⟨fun k z h=>(by simp [mget?] at h),fun k h w hw=>(List.not_mem_nil hw).elim⟩
  exact this
 generalize stMap t known l []=v at *
 rw [pM]
 apply List.filter_congr
 intro y hy
 rw [Bool.eq_iff_iff]
 unfold eX
 rw [Bool.cond_eq_ite]
 have hg:mgetD v (sKey y) (Interest.mk 0 0 0 0 0 false false)=y↔sCnt t known y∧∀ w∈l,sKey w=sKey y→sCnt t known w→¬ sOver y w:=by
  cases hm:mget? v (sKey y) with
  | none=>
   have h1:=hv.none _ hm y hy rfl
   constructor
   ·intro h
    simp only [mgetD,hm,Option.getD] at h
    exact (h1 (by rw [← h];exact ⟨ht,hk⟩)).elim
   ·exact fun h=>(h1 h.1).elim
  | some z=>
   obtain ⟨a1,a2,a3,a4⟩:=hv.some _ _ hm
   simp only [mgetD,hm,Option.getD]
   constructor
   ·rintro rfl;exact ⟨a3,a4⟩
   ·rintro ⟨b1,b2⟩
    have c1:=a4 y hy rfl b1
    have c2:=b2 z a1 a2 a3
    have:z.No=y.No:=by unfold sOver at c1 c2;omega
    exact H0 (f:=fun x:Interest=>x.No) hp a1 hy this
 split
 ·next hc=>
  constructor
  ·intro h
   simp only [Bool.and_eq_true,decide_eq_true_eq] at h
   have:=(hg.1 h.2).1
   unfold sCnt at this
   simp [fT,this.1,this.2] at hc
   simp [hc] at h
  ·intro h;cases h
 ·next hc=>
  simp only [Bool.or_eq_true,not_or,Bool.not_eq_true,Bool.not_eq_false',fT,Bool.and_eq_true,decide_eq_true_eq] at hc
  rw [yn,hc.1]
  simp only [Bool.not_false,Bool.true_and,decide_eq_true_eq]
  exact hg.trans ⟨fun h=>h.2,fun h=>⟨hc.2,h⟩⟩
def rwFill (who:Int):List Interest→List dN→List dN
 | [],w=>w
 | x::l,w=>bif (!x.Of)&&(x.Person==who) then rwFill who l (rwPut w ⟨[x.No],x.Party⟩) else rwFill who l w
def rwStep (path:List Int) (to:Int):List Interest→List dN→List dN
 | [],w=>w
 | x::l,w=>bif x.Of&&(x.Person==to) then rwStep path to l (rwPut w ⟨path++[x.No],x.Party⟩) else rwStep path to l w
def rwLoop (parties:List Int) (all:List Interest):Nat→Nat→List dN→List Int×Bool
 | 0,_,_=>([],false)
 | n+1,k,w=>match w[k]? with
  | none=>([],false)
  | some x=>bif iK parties x.To then (x.gT,true) else bif (x.gT.length:Int)==8 then rwLoop parties all n (k+1) w
   else rwLoop parties all n (k+1) (rwStep x.gT x.To all w)
def standR (l:List Interest) (t known:Int):List Interest:=l.filter (fun x=>eX l x t known)
def conflictR (l:List Interest) (who:Int) (parties:List Int) (t known:Int):List Int×Bool×Int:=
 bif gK l who parties t known != 0 then ([],false,gK l who parties t known)
 else ((rwLoop parties (standR l t known) (l.length+1) 0 (rwFill who (standR l t known) [])).1,(rwLoop parties (standR l t known) (l.length+1) 0 (rwFill who (standR l t known) [])).2,0)
def toI (w:dN):fO:=⟨w.gT,w.To⟩
def Met (m:List (Int×Bool)) (w:List dN):Prop:=∀ t,mgetD m t false=w.any (fun x=>x.To==t)
theorem Be {m:List (Int×Bool)} {d e:List dN} (x:dN) (h:Met m (d++e)):∃ e',rwPut (d++e) x=d++e'∧(conPut (toI x) m (e.map toI)).2=e'.map toI∧Met (conPut (toI x) m (e.map toI)).1 (d++e'):=by
 unfold rwPut conPut
 rw [show (toI x).to=x.To from rfl,h x.To]
 cases hb:(d++e).any (fun w=>w.To==x.To) with
 | true=>exact ⟨e,rfl,rfl,h⟩
 | false=>
  refine ⟨e++[x],by simp,by simp,fun t=>?_⟩
  show mgetD (mput m x.To true) t false=_
  rw [qF,h t,← List.append_assoc,List.any_append]
  by_cases ht:t=x.To
  ·subst ht;simp
  ·rw [if_neg ht]
   have:(x.To==t)=false:=by simp;exact fun e=>ht e.symm
   simp [this]
theorem uf (path:List Int) (to:Int):∀ (l:List Interest) {m:List (Int×Bool)} {d e:List dN},Met m (d++e)→∃ e',rwStep path to l (d++e)=d++e'∧(conStep path (l.filter fun x=>x.Of&&(x.Person==to)) m (e.map toI)).2=e'.map toI∧Met (conStep path (l.filter fun x=>x.Of&&(x.Person==to)) m (e.map toI)).1 (d++e')
 | [],m,d,e,h=>⟨e,rfl,rfl,h⟩
 | x::l,m,d,e,h=>by
  simp only [rwStep,List.filter_cons,Bool.cond_eq_ite]
  split
  ·obtain ⟨e1,a1,a2,a3⟩:=Be ⟨path++[x.No],x.Party⟩ h
   simp only [conStep]
   rw [a1]
   rw [show (conPut ⟨path++[x.No],x.Party⟩ m (e.map toI)).2=e1.map toI from a2]
   exact uf path to l a3
  ·exact uf path to l h
theorem qs (who:Int):∀ (l:List Interest) (f:List (Int×List Interest)) {m:List (Int×Bool)} {e:List dN},Met m e→∃ e',rwFill who l e=e'∧(conFill who l f m (e.map toI)).2.2=e'.map toI∧Met (conFill who l f m (e.map toI)).2.1 e'∧∀ to,mgetD (conFill who l f m (e.map toI)).1 to []=mgetD f to []++l.filter fun x=>x.Of&&(x.Person==to)
 | [],f,m,e,h=>⟨e,rfl,rfl,h,fun to=>by simp [conFill]⟩
 | x::l,f,m,e,h=>by
  simp only [rwFill,conFill,List.filter_cons]
  cases ho:x.Of with
  | true=>
   simp only [Bool.not_true,Bool.false_and,cond_false,cond_true,Bool.true_and]
   obtain ⟨e',a1,a2,a3,a4⟩:=qs who l (mput f x.Person (mgetD f x.Person []++[x])) h
   refine ⟨e',a1,a2,a3,fun to=>?_⟩
   rw [a4,qF]
   by_cases ht:to=x.Person
   ·subst ht;simp
   ·rw [if_neg ht]
    have:(x.Person==to)=false:=by simp;exact fun e=>ht e.symm
    simp [this]
  | false=>
   simp only [Bool.not_false,Bool.true_and,cond_false,Bool.false_and,Bool.false_eq_true,if_false]
   cases hw:x.Person==who with
   | true=>
    simp only [cond_true]
    obtain ⟨e1,a1,a2,a3⟩:=Be (d:=[]) (e:=e) ⟨[x.No],x.Party⟩ h
    rw [List.nil_append,List.nil_append] at a1
    rw [a1]
    rw [show (conPut ⟨[x.No],x.Party⟩ m (e.map toI)).2=e1.map toI from a2]
    exact qs who l f a3
   | false=>exact qs who l f h
theorem has29 (n:Int):∀ l:List Int,iK l n=l.contains n
 | []=>rfl
 | y::l=>by
  have ih:=has29 n l
  unfold iK at ih ⊢
  simp only [iK.L1,List.contains_cons,ih,Bool.cond_eq_ite]
  by_cases h:y=n
  ·subst h;simp
  ·have h1:(y==n)=false:=by simpa using h
   have h2:(n==y)=false:=by simpa using fun e=>h (Eq.symm e)
   simp [h1,h2]
theorem ug {ps:List Int} {all:List Interest} {f:List (Int×List Interest)} (hf:∀ to,mgetD f to []=all.filter fun x=>x.Of&&(x.Person==to)):∀ (n:Nat) {m:List (Int×Bool)} {d e:List dN},Met m (d++e)→rwLoop ps all n d.length (d++e)=conLoop ps f n m (e.map toI)
 | 0,m,d,e,h=>rfl
 | n+1,m,d,[],h=>by simp [rwLoop,conLoop]
 | n+1,m,d,x::e,h=>by
  have hx:(d++x::e)[d.length]? = some x:=by simp
  have hl:d.length+1=(d++[x]).length:=by simp
  have hd:d++x::e=(d++[x])++e:=by simp
  simp only [rwLoop,hx,List.map_cons,conLoop]
  rw [has29,show (toI x).to=x.To from rfl,show (toI x).path=x.gT from rfl]
  cases ps.contains x.To with
  | true=>rfl
  | false=>
   simp only [cond_false]
   rw [hd] at h ⊢
   rw [hl]
   cases (x.gT.length:Int)==8 with
   | true=>exact ug hf n h
   | false=>
    simp only [cond_false]
    obtain ⟨e',a1,a2,a3⟩:=uf x.gT x.To all h
    rw [a1,hf,a2]
    exact ug hf n a3
theorem sE (b:Bool):∀ (l:List Int) (g:Int),bq.L1 (fun _=>bif b then 1 else 0) l g=bif b||!(decide ((∀ x∈l,g < x∧x≤1048576)∧l.Pairwise (· < ·))) then 1 else 0
 | [],g=>by simp [bq.L1]
 | y::l,g=>by
  simp only [bq.L1,sE b l y]
  cases hc:(decide (y≤g)||decide (1048576 < y)) with
  | true=>
   rw [show decide ((∀ x∈y::l,g < x∧x≤1048576)∧(y::l).Pairwise (· < ·))=false from by
    simp only [Bool.or_eq_true,decide_eq_true_eq] at hc
    simp only [decide_eq_false_iff_not]
    intro h;have:=h.1 y (List.mem_cons_self ..);omega]
   simp
  | false=>
   simp only [Bool.or_eq_false_iff,decide_eq_false_iff_not] at hc
   simp only [cond_false]
   congr 3
   rw [decide_eq_decide,List.pairwise_cons,List.forall_mem_cons]
   constructor
   ·exact fun ⟨h1,h2⟩=>⟨⟨by omega,fun x hx=>by have:=h1 x hx;omega⟩,fun x hx=>(h1 x hx).1,h2⟩
   ·exact fun ⟨h1,h2,h3⟩=>⟨fun x hx=>⟨h2 x hx,(h1.2 x hx).2⟩,h3⟩
theorem parties29 {l:List Int}:eI l=true↔((∀ x∈l,-1 < x∧x≤1048576)∧l.Pairwise (· < ·))∧l.length≤16:=by
 have e:∀ (L l:List Int) i,eI.L1 L (eI.K1 L) l i=refLs (fun y=>!(gD y)) L (eI.K1 L) l i:=by
  intro L l
  induction l with
  | nil=>intro i;rfl
  | cons y l ih=>intro i;simp only [eI.L1,refLs,ih]
 have hB:∀ y:Int,(!(gD y))=false↔-1 < y∧y≤1048576:=fun y=>by
  simp only [gD,Bool.not_eq_false',Bool.and_eq_true,decide_eq_true_eq];omega
 have hK:eI.K1 l=true↔l.length≤16:=by simp only [eI.K1,decide_eq_true_eq];omega
 unfold eI
 rw [e]
 constructor
 ·intro h
  obtain ⟨⟨h1,h2⟩,h3⟩:=yE h
  exact ⟨⟨fun x hx=>(hB x).1 (h1 x hx),h3⟩,hK.1 h2⟩
 ·intro h
  exact qw (fun y hy=>(hB y).2 (h.1.1 y hy)) h.1.2 (hK.2 h.2) l [] rfl
theorem examine29 (l:List Interest) (p:Int) (ps:List Int) (t known:Int):bq l p ps t known=gK l p ps t known:=by
 unfold bq gK
 rw [kQ]
 cases et l != 0 with
 | true=>rfl
 | false=>
  simp only [cond_false]
  have e:=sE ((((!(aO p 64))||decide (16 < (ps.length:Int)))||(!(aO t 1099511627776)))||(!(aO known 1099511627776))) ps (-1)
  rw [show bq.K1 p ps t known=fun _=>bif ((((!(aO p 64))||decide (16 < (ps.length:Int)))||(!(aO t 1099511627776)))||(!(aO known 1099511627776))) then 1 else 0 from rfl,e]
  congr 1
  have hp:eI ps=(decide ((∀ x∈ps,-1 < x∧x≤1048576)∧ps.Pairwise (· < ·))&&!(decide (16 < (ps.length:Int)))):=by
   rw [Bool.eq_iff_iff,parties29]
   simp only [Bool.and_eq_true,decide_eq_true_eq,Bool.not_eq_true',decide_eq_false_iff_not]
   constructor
   ·exact fun h=>⟨h.1,by omega⟩
   ·exact fun h=>⟨h.1,by omega⟩
  rw [hp]
  simp only [aO,jU,ia]
  cases (decide (0≤p)&&decide (p < 64)) <;> cases decide (16 < (ps.length:Int)) <;> cases (decide (0≤t)&&decide (t < 1099511627776)) <;> cases (decide (0≤known)&&decide (known < 1099511627776)) <;> cases decide ((∀ x∈ps,-1 < x∧x≤1048576)∧ps.Pairwise (· < ·)) <;> rfl
theorem AE {l:List Interest} (h:bK l=0):l.Pairwise (fun a b=>a.No < b.No):=by
 unfold bK at h
 rw [interestsP,Bool.cond_eq_ite] at h
 split at h
 ·omega
 ·exact ((wg (by omega) l _).1 h).2
theorem conflict29 (l:List Interest) (p:Int) (ps:List Int) (t known:Int):cX l p ps t known=conflictR l p ps t known:=by
 unfold cX conflictR
 rw [examine29]
 cases he:gK l p ps t known != 0 with
 | true=>rfl
 | false=>
  have h0:gK l p ps t known=0:=by simpa using he
  have hc:bK l=0∧0≤t∧0≤known:=by
   rw [kQ]
   unfold gK at h0
   rw [Bool.cond_eq_ite] at h0
   split at h0
   ·next h=>simp [h0] at h
   ·next h=>
    rw [Bool.cond_eq_ite] at h0
    split at h0
    ·omega
    ·next h2=>
     simp only [Bool.or_eq_true,not_or,Bool.not_eq_true,Bool.not_eq_false',ia,Bool.and_eq_true,decide_eq_true_eq] at h2
     exact ⟨by simpa using h,by omega,by omega⟩
  have hs:bu l t known=standR l t known:=standing29 hc.2.1 hc.2.2 (AE hc.1)
  simp only [cond_false,conFind,hs]
  obtain ⟨e',a1,a2,a3,a4⟩:=qs p (standR l t known) [] (m:=[]) (e:=[]) (fun t=>rfl)
  have:=ug (ps:=ps) (all:=standR l t known) (f:=(conFill p (standR l t known) [] [] []).1) (fun to=>by
   have:=a4 to
   rw [List.map_nil] at this
   rw [this];rfl) (l.length+1) (d:=[]) (e:=e') a3
  rw [List.length_nil,List.nil_append] at this
  rw [a1,this]
  rw [List.map_nil] at a2 
  rw [a2]
  rfl
def freeR (r:Register) (d:Document) (who:List Int) (t known:Int):List Int:=who.filter fun x=>!(conflictR r.Interests x d.Parties t known).2.1
def holdR (r:Register) (p:Policy) (t known:Int):List (List Holder):=(List.range p.Offices.length).map fun (i:Nat)=>(bS r.Appoints (i:Int) t known).1
def wouldR (r:Register) (p:Policy) (d:Document) (who:List Int) (t known:Int):Bool:=
 bif decide ((p.Kinds.length:Int)≤d.Kind)||decide (t < d.At+(nthI p.Rules d.Kind).Think) then false
 else (fK p d.Kind d.Value (holdR r p t known) (freeR r d who t known)).1
def couldR (r:Register) (d:Document) (who:List Int) (t known:Int):Bool:=
 bif decide (t < d.At)||decide (d.Until≤t) then false
 else (iB (dJ r.Versions d.At t known).2.1 ((dJ r.Versions d.At t known).1.map fun no=>wouldR r (bM r no).Policy d who t known)).1
theorem Dr {p:Policy} {kind value:Int} {hs:List (List Holder)} {w:List Int}:((bW p kind value hs w).1&&((bW p kind value hs w).2==0))=(bW p kind value hs w).1:=by
 unfold bW
 cases (bZ p != 0) <;> cases (((decide (kind < 0)||decide ((p.Kinds.length:Int)≤kind))||decide (value < 0))||decide (1099511627776 < value)) <;> cases cd hs (p.Offices.length:Int) <;> cases cv w <;> simp
theorem wD {r:Register} {d:Document} {who:List Int} {t known:Int} (hs:smR r) (ho:co r.Appoints=0) (hi:bK r.Interests=0) (hv:px r.Versions) (hd:Al d) (hw:∀ x∈who,0≤x∧x < 64)
  (ht:0≤t∧t < 1099511627776) (hk:0≤known∧known < 1099511627776):aP ⟨r,d,known⟩ who t=couldR r d who t known:=by
 unfold aP couldR
 cases hc:(decide (t < d.At)||decide (d.Until≤t)) with
 | true=>simp only [cond_true,hc]
 | false=>
  simp only [cond_false,hc]
  simp only [Bool.or_eq_false_iff,decide_eq_false_iff_not] at hc
  have j:=BR hv (begun:=d.At) (at_:=t) (known:=known) hd.at_ ht hk (by omega)
  have hv0:bg r.Versions=0:=(je _).2 hv
  have jr:=IS hv (tW hs.vers hv0) (begun:=d.At) (at_:=t) (known:=known) hd.at_ ht hk (by omega)
  have ej:ao ⟨r,d,known⟩ t=((ay r.Versions d.At t known).1.map fun no=>(bM r no).Policy,(ay r.Versions d.At t known).2.1):=by
   unfold ao
   show (bif ((ay r.Versions d.At t known).2.2 != 0) then _ else _)=_
   rw [j.err]
   simp only [bne_self_eq_false,cond_false]
   rw [mw,List.nil_append]
   show ((List.map _ (List.filter (fun v=>el (ay r.Versions d.At t known).1 v.No) r.Versions)),_)=_
   rw [EY hv j,List.map_map]
   rfl
  have hlen:=E9 r.Versions d.At t known
  have hl256:=hv.len
  rw [ej,jr]
  dsimp only
  rw [JP,decide27]
  have hfree:bv who (fun dX=>aS dX ⟨r,d,known⟩ t)=freeR r d who t known:=by
   unfold bv freeR
   apply List.filter_congr
   intro x hx
   unfold aS
   dsimp only
   rw [CJ hi (hw x hx) hd.parties ht hk,conflict29]
   rfl
  generalize hJ:ay r.Versions d.At t known=J at *
  have hval:(J.1.map fun no=>(bM r no).Policy).map (cval ⟨r,d,known⟩ who t)=J.1.map fun no=>wouldR r (bM r no).Policy d who t known:=by
   rw [List.map_map]
   apply List.map_congr_left
   intro no hno
   obtain ⟨v,hvm,hve⟩:=j.mem no hno
   have hr:bM r no=v:=B3 no _ _ hv.inc v hvm hve
   have hof:=(hv.okV.2 v hvm).1.2
   have hpc:=(hv.each v hvm).2.2.2
   obtain ⟨hkr,_,_⟩:=mz hpc
   show cval ⟨r,d,known⟩ who t (bM r no).Policy=_
   rw [hr]
   unfold cval wouldR
   dsimp only
   rw [Dr,hfree]
   have hh:av ⟨r,d,known⟩ v.Policy t=holdR r v.Policy t known:=by
    rw [lq]
    unfold holdR
    apply List.map_congr_left
    intro i hi
    rw [GM ho (by have:=List.mem_range.1 hi;omega) ht hk]
   have hb:∀ y∈av ⟨r,d,known⟩ v.Policy t,y.length≤2000000:=rU hs.2.1 v.Policy t
   rw [hh] at hb
   rw [hh,(permits21 (hs.vers.2 v hvm) hb).1,hkr]
   by_cases h1:d.Kind < (v.Policy.Kinds.length:Int)
   ·have e1:decide ((v.Policy.Kinds.length:Int)≤d.Kind)=false:=by simp;omega
    rw [e1]
    by_cases h2:d.At+(nthI v.Policy.Rules d.Kind).Think≤t
    ·have e2:decide (t < d.At+(nthI v.Policy.Rules d.Kind).Think)=false:=by simp;omega
     simp [h1,h2,e2]
    ·have e2:decide (t < d.At+(nthI v.Policy.Rules d.Kind).Think)=true:=by simp;omega
     simp [h1,h2,e2]
   ·have e1:decide ((v.Policy.Kinds.length:Int)≤d.Kind)=true:=by simp;omega
    simp [h1,e1]
  rw [hval,List.nil_append]
  unfold aP.K1
  rw [ej]
  dsimp only
  by_cases hn:J.1=[]
  ·rw [hn,List.map_nil,Fa];rfl
  ·have he:=Fb (mode:=J.2.1) (j.mode hn) (l:=J.1.map fun no=>wouldR r (bM r no).Policy d who t known) (by rw [List.length_map];omega)
   rw [he];simp
theorem AK {q:aC} (who:List Int) (hk:0≤q.doc.Kind) {t u:Int} (ht:0≤t∧t < 1099511627776) (hu:0≤u∧u < 1099511627776) (hA:t < q.doc.At↔u < q.doc.At) (hUn:t < q.doc.Until↔u < q.doc.Until)
  (hap:∀ y∈q.Register.Appoints,(t < y.At↔u < y.At)) (hin:∀ y∈q.Register.Interests,(t < y.At↔u < y.At)) (hve:∀ y∈q.Register.Versions,(t < y.At↔u < y.At))
  (hru:∀ v∈q.Register.Versions,q.doc.Kind < (v.Policy.Rules.length:Int)→(t < q.doc.At+(nthI v.Policy.Rules q.doc.Kind).Think↔u < q.doc.At+(nthI v.Policy.Rules q.doc.Kind).Think)):aP q who u=aP q who t:=by
 have hd:(decide (u < q.doc.At)||decide (q.doc.Until≤u))=(decide (t < q.doc.At)||decide (q.doc.Until≤t)):=by
  have h1:decide (u < q.doc.At)=decide (t < q.doc.At):=by simp [hA]
  have h2:decide (q.doc.Until≤u)=decide (q.doc.Until≤t):=by
   have:q.doc.Until≤u↔q.doc.Until≤t:=by omega
   simp [this]
  rw [h1,h2]
 unfold aP
 rw [hd]
 cases hc:(decide (t < q.doc.At)||decide (q.doc.Until≤t)) with
 | true=>rfl
 | false=>
  simp only [Bool.or_eq_false_iff,decide_eq_false_iff_not] at hc
  simp only [cond_false]
  have ej:ao q u=ao q t:=by
   have e:=xy (l:=q.Register.Versions) (begun:=q.doc.At) (known:=q.known) ht hu hA hve
   have L:∀ (l:List Version) (g:List Policy),ao.L1 q u (ao.K1 q u) l g=ao.L1 q t (ao.K1 q t) l g:=by
    intro l g
    rw [mw,mw,e]
   unfold ao
   rw [← e,L]
  have eh:∀ p,av q p u=av q p t:=fun p=>by
   rw [lq,lq]
   exact List.map_congr_left fun j _=>by rw [vO (known:=q.known) (o:=(j:Int)) ht hu hap]
  have ec:(fun dX=>aS dX q u)=(fun dX=>aS dX q t):=by
   funext a
   unfold aS
   rw [tV (p:=a) (ps:=q.doc.Parties) (known:=q.known) ht hu hin]
  have ek:aP.K1 q u=aP.K1 q t:=by
   funext g
   unfold aP.K1
   rw [ej]
  rw [ej,ek]
  have L:∀ (k:List Bool→Bool) (l:List Policy) (g:List Bool),(∀ p∈l,∃ v∈q.Register.Versions,v.Policy=p)→0≤q.doc.Kind→aP.L1 q who u k l g=aP.L1 q who t k l g:=by
   intro k l
   induction l with
   | nil=>intros;rfl
   | cons p l ih=>
    intro g hl hk
    obtain ⟨v,hv,hvp⟩:=hl p (List.mem_cons_self ..)
    have e:(decide (q.doc.Kind < (p.Rules.length:Int))&&decide ((q.doc.At+(nthI p.Rules q.doc.Kind).Think)≤u))=(decide (q.doc.Kind < (p.Rules.length:Int))&&decide ((q.doc.At+(nthI p.Rules q.doc.Kind).Think)≤t)):=by
     by_cases hkl:q.doc.Kind < (p.Rules.length:Int)
     ·have:=hru v hv (by rw [hvp];exact hkl)
      rw [hvp] at this
      have h2:(q.doc.At+(nthI p.Rules q.doc.Kind).Think≤u)↔(q.doc.At+(nthI p.Rules q.doc.Kind).Think≤t):=by omega
      simp [h2]
     ·simp [hkl]
    simp only [aP.L1,e,eh,ec,ih _ (fun z hz=>hl z (List.mem_cons_of_mem _ hz)) hk]
  exact L _ _ _ (fun p hp=>qI hp) hk
def insT (t:Int):List Int→List Int
 | []=>[t]
 | y::l=>bif decide (y < t) then y::insT t l else bif y==t then y::l else t::y::l
theorem sn {t x:Int}:∀ {l:List Int},x∈insT t l↔x=t∨x∈l
 | []=>by simp [insT]
 | y::l=>by
  have ih:=sn (t:=t) (x:=x) (l:=l)
  simp only [insT,Bool.cond_eq_ite,decide_eq_true_eq,beq_iff_eq]
  split
  ·rw [List.mem_cons,ih,List.mem_cons]
   constructor
   ·rintro (h | h | h) <;> simp [h]
   ·rintro (h | h | h) <;> simp [h]
  ·split
   ·next h=>subst h;simp
   ·simp
theorem DV {t:Int}:∀ {l:List Int},l.Pairwise (· < ·)→(insT t l).Pairwise (· < ·)
 | [],_=>by simp [insT]
 | y::l,h=>by
  obtain ⟨h1,h2⟩:=List.pairwise_cons.1 h
  simp only [insT,Bool.cond_eq_ite,decide_eq_true_eq,beq_iff_eq]
  split
  ·next hy=>
   refine List.pairwise_cons.2 ⟨fun x hx=>?_,DV h2⟩
   rcases sn.1 hx with rfl | hx
   ·exact hy
   ·exact h1 x hx
  ·split
   ·exact h
   ·next hy hn=>
    refine List.pairwise_cons.2 ⟨fun x hx=>?_,h⟩
    rcases List.mem_cons.1 hx with rfl | hx
    ·omega
    ·have:=h1 x hx;omega
theorem Dq (t:Int) (L:List Int):∀ (l pre:List Int),L=pre++l→cj.L1 t (cj.K1 L t) l pre.length=pre++insT t l
 | [],pre,e=>by
  rw [List.append_nil] at e
  subst e
  simp [cj.L1,cj.K1,insT]
 | y::l,pre,e=>by
  simp only [cj.L1,insT]
  cases hy:decide (y < t) with
  | true=>
   have:=Dq t L l (pre++[y]) (by rw [e];simp)
   rw [List.length_append,List.length_cons,List.length_nil,Nat.zero_add] at this
   simp only [cond_true]
   rw [this];simp
  | false=>
   have h1:decide ((pre.length:Int) < (L.length:Int))=true:=by rw [e];simp;omega
   have h2:nthI L (pre.length:Int)=y:=jb (by rw [e];simp)
   simp only [cond_false,cj.K1]
   rw [h1,h2]
   simp only [Bool.true_and]
   cases y==t with
   | true=>simp [e]
   | false=>simp [e]
theorem HR (l:List Int) (t:Int):cj l t=bif cn t then insT t l else l:=by
 unfold cj
 have:=Dq t l l [] rfl
 rw [List.length_nil,List.nil_append] at this
 rw [this]
 cases cn t <;> rfl
structure ChL (l:List Int):Prop where
 inc:l.Pairwise (· < ·)
 zero:∃ l',l=0::l'
 tm:∀ x∈l,0≤x∧x < 1099511627776
theorem r20Time (t:Int):cn t=true↔0≤t∧t < 1099511627776:=by simp [cn]
theorem ChL.put {l:List Int} (h:ChL l) (t:Int):ChL (cj l t)∧(∀ x∈l,x∈cj l t)∧(0≤t→t < 1099511627776→t∈cj l t):=by
 rw [HR]
 cases ht:cn t with
 | false=>exact ⟨h,fun x hx=>hx,fun a b=>absurd ((r20Time t).2 ⟨a,b⟩) (by rw [ht];decide)⟩
 | true=>
  have ht:=(r20Time t).1 ht
  refine ⟨⟨DV h.inc,?_,fun x hx=>?_⟩,fun x hx=>sn.2 (.inr hx),fun _ _=>sn.2 (.inl rfl)⟩
  ·obtain ⟨l',e⟩:=h.zero
   subst e
   simp only [cond_true,insT]
   by_cases h1:(0:Int) < t
   ·exact ⟨insT t l',by simp [h1]⟩
   ·have h2:t=0:=by omega
    exact ⟨l',by subst h2;simp⟩
  ·rcases sn.1 hx with rfl | hx
   ·exact ht
   ·exact h.tm x hx
theorem JN (k:List Int→List Int):∀ (l:List Appoint) (g:List Int),ChL g→∃ g',aD.L1 k l g=k g'∧ChL g'∧(∀ x∈g,x∈g')∧∀ a∈l,0≤a.At→a.At < 1099511627776→a.At∈g'
 | [],g,h=>⟨g,rfl,h,fun _ hx=>hx,fun _ ha=>(List.not_mem_nil ha).elim⟩
 | y::l,g,h=>by
  obtain ⟨p1,p2,p3⟩:=h.put y.At
  obtain ⟨g',a1,a2,a3,a4⟩:=JN k l _ p1
  refine ⟨g',a1,a2,fun x hx=>a3 x (p2 x hx),fun a ha u v=>?_⟩
  rcases List.mem_cons.1 ha with rfl | ha
  ·exact a3 _ (p3 u v)
  ·exact a4 a ha u v
theorem JM (k:List Int→List Int):∀ (l:List Interest) (g:List Int),ChL g→∃ g',aD.L2 k l g=k g'∧ChL g'∧(∀ x∈g,x∈g')∧∀ a∈l,0≤a.At→a.At < 1099511627776→a.At∈g'
 | [],g,h=>⟨g,rfl,h,fun _ hx=>hx,fun _ ha=>(List.not_mem_nil ha).elim⟩
 | y::l,g,h=>by
  obtain ⟨p1,p2,p3⟩:=h.put y.At
  obtain ⟨g',a1,a2,a3,a4⟩:=JM k l _ p1
  refine ⟨g',a1,a2,fun x hx=>a3 x (p2 x hx),fun a ha u v=>?_⟩
  rcases List.mem_cons.1 ha with rfl | ha
  ·exact a3 _ (p3 u v)
  ·exact a4 a ha u v
theorem IJ (d:Document) (k:List Int→List Int):∀ (l:List Version) (g:List Int),ChL g→∃ g',aD.L3 d k l g=k g'∧ChL g'∧(∀ x∈g,x∈g')∧∀ a∈l,(0≤a.At→a.At < 1099511627776→a.At∈g') ∧
   (d.Kind < (a.Policy.Rules.length:Int)→0≤d.At+(nthI a.Policy.Rules d.Kind).Think→d.At+(nthI a.Policy.Rules d.Kind).Think < 1099511627776→d.At+(nthI a.Policy.Rules d.Kind).Think∈g')
 | [],g,h=>⟨g,rfl,h,fun _ hx=>hx,fun _ ha=>(List.not_mem_nil ha).elim⟩
 | y::l,g,h=>by
  obtain ⟨p1,p2,p3⟩:=h.put y.At
  simp only [aD.L3,Bool.cond_eq_ite,decide_eq_true_eq]
  split
  ·obtain ⟨q1,q2,q3⟩:=p1.put (d.At+(nthI y.Policy.Rules d.Kind).Think)
   obtain ⟨g',a1,a2,a3,a4⟩:=IJ d k l _ q1
   refine ⟨g',a1,a2,fun x hx=>a3 x (q2 x (p2 x hx)),fun a ha=>?_⟩
   rcases List.mem_cons.1 ha with rfl | ha
   ·exact ⟨fun u v=>a3 _ (q2 _ (p3 u v)),fun _ u v=>a3 _ (q3 u v)⟩
   ·exact a4 a ha
  ·next hk=>
   obtain ⟨g',a1,a2,a3,a4⟩:=IJ d k l _ p1
   refine ⟨g',a1,a2,fun x hx=>a3 x (p2 x hx),fun a ha=>?_⟩
   rcases List.mem_cons.1 ha with rfl | ha
   ·exact ⟨fun u v=>a3 _ (p3 u v),fun h=>(hk h).elim⟩
   ·exact a4 a ha
theorem Ab (r:Register) (d:Document):ChL (aD r d)∧(∀ z,0≤z→z < 1099511627776→(z=d.At∨z=d.Until∨(∃ a∈r.Appoints,z=a.At)∨(∃ a∈r.Interests,z=a.At)∨(∃ v∈r.Versions,z=v.At)∨∃ v∈r.Versions,d.Kind < (v.Policy.Rules.length:Int)∧z=d.At+(nthI v.Policy.Rules d.Kind).Think)→z∈aD r d):=by
 have h0:ChL [0]:=⟨by simp,⟨[],rfl⟩,by simp⟩
 obtain ⟨p1,p2,p3⟩:=h0.put d.At
 obtain ⟨q1,q2,q3⟩:=p1.put d.Until
 obtain ⟨g1,a1,a2,a3,a4⟩:=JN (aD.K1 r d) r.Appoints _ q1
 obtain ⟨g2,b1,b2,b3,b4⟩:=JM (aD.K2 r d) r.Interests _ a2
 obtain ⟨g3,c1,c2,c3,c4⟩:=IJ d aD.K3 r.Versions _ b2
 have e:aD r d=g3:=by
  unfold aD
  rw [a1];unfold aD.K1
  rw [b1];unfold aD.K2
  rw [c1];rfl
 rw [e]
 refine ⟨c2,fun z u v h=>?_⟩
 rcases h with rfl | rfl | ⟨a,ha,rfl⟩ | ⟨a,ha,rfl⟩ | ⟨a,ha,rfl⟩ | ⟨a,ha,hk,rfl⟩
 ·exact c3 _ (b3 _ (a3 _ (q2 _ (p3 u v))))
 ·exact c3 _ (b3 _ (a3 _ (q3 u v)))
 ·exact c3 _ (b3 _ (a4 a ha u v))
 ·exact c3 _ (b4 a ha u v)
 ·exact (c4 a ha).1 u v
 ·exact (c4 a ha).2 hk u v
def timesR (r:Register) (doc:Int) (who:List Int) (known:Int):List Span×Int:=
 bif gU r != 0 then ([],300) else bif (decide (bp r doc < 0)||(!(df who)))||(!(cn known)) then ([],1)
 else ((pcs (aD r (nthI r.Docs (bp r doc)))).foldl (stepT fun t=>couldR r (nthI r.Docs (bp r doc)) who t known) [],0)
theorem zS {f g:Int→Bool}:∀ (ps acc:List Span),(∀ s∈ps,f s.From=g s.From)→ps.foldl (stepT f) acc=ps.foldl (stepT g) acc
 | [],acc,_=>rfl
 | p::ps,acc,h=>by
  have h1:=h p (List.mem_cons_self ..)
  have e:stepT f acc p=stepT g acc p:=by unfold stepT;rw [h1]
  rw [List.foldl_cons,List.foldl_cons,e]
  exact zS ps _ fun s hs=>h s (List.mem_cons_of_mem _ hs)
theorem Ds:∀ (l:List Int),(∀ x∈l,x < 1099511627776)→∀ s∈pcs l,s.From < 1099511627776
 | [],_,s,h=>(List.not_mem_nil h).elim
 | [y],h,s,hs=>by
  have hy:=h y (List.mem_cons_self ..)
  have e:decide (y < 1099511627776)=true:=by simpa using hy
  simp only [pcs,e,cond_true,List.mem_singleton] at hs
  rw [hs];exact hy
 | y::z::l,h,s,hs=>by
  have hy:=h y (List.mem_cons_self ..)
  have ih:=Ds (z::l) fun x hx=>h x (List.mem_cons_of_mem _ hx)
  simp only [pcs,Bool.cond_eq_ite] at hs
  split at hs
  ·rcases List.mem_cons.1 hs with rfl | hs
   ·exact hy
   ·exact ih s hs
  ·exact ih s hs
theorem gathR {r:Register} {d:Document} {who:List Int} {known:Int} (hs:smR r) (hj:eP r=0) (hd:Al d) (hw:∀ x∈who,0≤x∧x < 64) (hk:0≤known∧known < 1099511627776):
  xP (fun t=>couldR r d who t known) ((pcs (aD r d)).foldl (stepT fun t=>couldR r d who t known) []) 1099511627776:=by
 obtain ⟨d1,d2,d3,d4,d5,d6,d7⟩:=(oB r).1 hj
 have hv:=(je r.Versions).1 d5
 have c1:=(ns r.Appoints).symm.trans d1
 have c3:=(kQ r.Interests).symm.trans d3
 obtain ⟨ch,hm⟩:=Ab r d
 obtain ⟨l,hl⟩:=ch.zero
 have hcut:∀ t:Int,t < 1099511627776→(fun t=>couldR r d who (min t 1099511627775) known) t=(fun t=>couldR r d who t known) t:=fun t ht=>by
  show couldR r d who (min t 1099511627775) known=_
  rw [show min t 1099511627775=t from by omega]
 have hfold:=zS (f:=fun t=>couldR r d who t known) (g:=fun t=>couldR r d who (min t 1099511627775) known) (pcs (aD r d)) [] fun s hs=>(hcut _ (Ds _ (fun x hx=>(ch.tm x hx).2) s hs)).symm
 have hinc:=ch.inc
 rw [hl] at hinc
 have g:xP (fun t=>couldR r d who (min t 1099511627775) known) ((pcs (aD r d)).foldl (stepT fun t=>couldR r d who (min t 1099511627775) known) []) 1099511627776:=by
  rw [hl]
  refine zy 0 l [] hinc (by decide) ⟨trivial,by show (-1:Int)≤0;decide,by decide,fun t h1 h2=>by omega⟩ fun t u h1 h2 h3=>?_
  show couldR r d who (min u 1099511627775) known=couldR r d who (min t 1099511627775) known
  have ht:0≤min t 1099511627775∧min t 1099511627775 < 1099511627776:=by omega
  have hu:0≤min u 1099511627775∧min u 1099511627775 < 1099511627776:=by omega
  have pt:∀ z:Int,0≤z→(z < 1099511627776→z∈aD r d)→(min t 1099511627775 < z↔min u 1099511627775 < z):=fun z z0 hz=>by
   by_cases hE:z < 1099511627776
   ·have hz:=hz hE
    rw [hl] at hz
    rcases List.mem_cons.1 hz with rfl | hz
    ·omega
    ·have:=h3 z hz;omega
   ·omega
  rw [← wD hs d1 d3 hv hd hw hu hk,← wD hs d1 d3 hv hd hw ht hk]
  have fr:=hd.eo
  have at0:=hd.at_
  refine AK (q:=⟨r,d,known⟩) who hd.kind.1 ht hu ?_ ?_ (fun y hy=>?_) (fun y hy=>?_) (fun y hy=>?_) (fun v hvm hkl=>?_)
  ·exact pt d.At at0.1 fun h=>hm _ at0.1 h (.inl rfl)
  ·have h0:0≤d.Until:=by omega
   exact pt d.Until h0 fun h=>hm _ h0 h (.inr (.inl rfl))
  ·have h0:=IN c1 y hy
   exact pt y.At h0 fun h=>hm _ h0 h (.inr (.inr (.inl ⟨y,hy,rfl⟩)))
  ·have h0:=IL c3 y hy
   exact pt y.At h0 fun h=>hm _ h0 h (.inr (.inr (.inr (.inl ⟨y,hy,rfl⟩))))
  ·have h0:=(hv.each y hy).1.1
   exact pt y.At h0 fun h=>hm _ h0 h (.inr (.inr (.inr (.inr (.inl ⟨y,hy,rfl⟩)))))
  ·have hmr:nthI v.Policy.Rules d.Kind∈v.Policy.Rules:=fm ⟨hd.kind.1,hkl⟩
   have h1:=((hv.okV.2 v hvm).2 _ hmr).1
   have h0:0≤d.At+(nthI v.Policy.Rules d.Kind).Think:=by omega
   exact pt _ h0 fun h=>hm _ h0 h (.inr (.inr (.inr (.inr (.inr ⟨v,hvm,hkl,rfl⟩)))))
 rw [hfold]
 exact ⟨g.ok,g.le,g.pos,fun t h0 ht=>(g.is t h0 ht).trans (hcut t ht)⟩
theorem Jt (r:Register) (doc known:Int):(cB r doc known).2=!(decide (bp r doc < 0)||!(cn known)):=by
 have e:ab r.Docs (fun dX=>bP dX doc)=bp r doc:=askIdx doc r.Docs 0
 unfold cB
 rw [e,show jE known=cn known from rfl]
 cases decide (bp r doc < 0) <;> cases cn known <;> rfl
theorem times33 {r:Register} (hs:smR r) (doc:Int) (who:List Int) (known:Int):cZ r doc who known=timesR r doc who known:=by
 by_cases hj:eP r=0
 ·have h30:=(judge30 hs).1 hj
  unfold timesR
  rw [h30]
  simp only [bne_self_eq_false,cond_false]
  cases ha:((decide (bp r doc < 0)||(!(df who)))||(!(cn known))) with
  | true=>
   unfold cZ
   rw [hj,Jt,apeople21]
   have:((!(!(decide (bp r doc < 0)||!(cn known))))||(!(df who)))=true:=by
    rw [← ha]
    cases decide (bp r doc < 0) <;> cases cn known <;> cases df who <;> rfl
   rw [this]
   rfl
  | false=>
   simp only [Bool.or_eq_false_iff,decide_eq_false_iff_not,Bool.not_eq_false'] at ha
   obtain ⟨⟨a1,a2⟩,a3⟩:=ha
   have hk:=(r20Time known).1 a3
   have hp:=people21.1 a2
   obtain ⟨s,e1,e2⟩:=Hr (doc:=doc) hj (by omega) hk hp
   rw [e1]
   simp only [cond_false,Prod.mk.injEq,and_true]
   obtain ⟨d1,d2,d3,d4,d5,d6,d7⟩:=(oB r).1 hj
   have hd:=sW d6 _ (pj (r:=r) (no:=doc) (by omega)).2.1
   have hv:=(je r.Versions).1 d5
   exact e2.uniq (gathR hs hj hd hp.1 hk) fun t h0 ht=>wD hs d1 d3 hv hd hp.1 ⟨h0,ht⟩ hk
 ·have h30:gU r≠0:=fun h=>hj ((judge30 hs).2 h)
  unfold cZ timesR
  rw [show (eP r != 0)=true from by simp [hj],show (gU r != 0)=true from by simp [h30]]
  rfl
theorem DU (t:Int):∀ l:List Int,(insT t l).length≤l.length+1
 | []=>by simp [insT]
 | y::l=>by
  have ih:=DU t l
  simp only [insT,Bool.cond_eq_ite]
  split
  ·simpa using ih
  ·split <;> simp
theorem eW (l:List Int) (t:Int):(cj l t).length≤l.length+1:=by
 rw [HR]
 cases cn t
 ·exact Nat.le_succ _
 ·exact DU t l
theorem EH {r:Register} (hs:smR r) (doc:Int) (who:List Int) (known:Int):
  (dO (cZ r doc who known).1 (timesR r doc who known).1&&((cZ r doc who known).2==(timesR r doc who known).2))=true:=by
 rw [times33 hs,Gp,beq_self_eq_true];rfl
def nL (all:List Interest) (w:List dN):Prop:=(w.map (·.To)).Nodup∧(∀ x∈w,x.To∈all.map (·.Party))∧∀ x∈w,x.gT.length≤8
theorem nL.nil {all:List Interest}:nL all []:=⟨List.nodup_nil,fun _ h=>(List.not_mem_nil h).elim,fun _ h=>(List.not_mem_nil h).elim⟩
theorem nL.len {all:List Interest} {w:List dN} (h:nL all w):w.length≤all.length:=by
 have:=sR h.1 (b:=all.map (·.Party)) (fun t ht=>by obtain ⟨x,hx,rfl⟩:=List.mem_map.1 ht;exact h.2.1 x hx)
 simpa using this
theorem nL.put {all:List Interest} {w:List dN} (h:nL all w) {x:dN} (ht:x.To∈all.map (·.Party)) (hp:x.gT.length≤8):nL all (rwPut w x):=by
 unfold rwPut
 cases hb:w.any (fun w=>w.To==x.To) with
 | true=>exact h
 | false=>
  simp only [cond_false]
  refine ⟨?_,fun y hy=>?_,fun y hy=>?_⟩
  ·rw [List.map_append,List.nodup_append]
   refine ⟨h.1,by simp,fun a ha c hc e=>?_⟩
   obtain ⟨y,hy,rfl⟩:=List.mem_map.1 ha
   simp only [List.map_cons,List.map_nil,List.mem_singleton] at hc
   have:w.any (fun w=>w.To==x.To)=true:=List.any_eq_true.2 ⟨y,hy,by simp [e,hc]⟩
   rw [hb] at this;cases this
  ·rcases List.mem_append.1 hy with hy | hy
   ·exact h.2.1 y hy
   ·rw [List.mem_singleton.1 hy];exact ht
  ·rcases List.mem_append.1 hy with hy | hy
   ·exact h.2.2 y hy
   ·rw [List.mem_singleton.1 hy];exact hp
theorem Df (w:List dN) (x:dN):w.length≤(rwPut w x).length:=by
 unfold rwPut
 cases w.any (fun w=>w.To==x.To) <;> simp
theorem Bf {w:List dN} (x:dN) {k:Nat} (hk:k < w.length):nthI (rwPut w x) (k:Int)=nthI w (k:Int):=by
 unfold rwPut
 cases w.any (fun w=>w.To==x.To) with
 | true=>rfl
 | false=>
  have h1:w[k]? = some w[k]:=List.getElem?_eq_getElem hk
  rw [jb h1]
  exact jb (by rw [cond_false,List.getElem?_append_left hk];exact h1)
theorem qu (l:List Interest) (t known:Int):cu l t known=standR l t known:=by
 have key:∀ (s g:List Interest),cu.L1 l t known cu.K1 s g=g++s.filter fun x=>eX l x t known:=by
  intro s
  induction s with
  | nil=>intro g;simp [cu.L1,cu.K1]
  | cons y s ih=>
   intro g
   simp only [cu.L1,List.filter_cons]
   cases eX l y t known with
   | true=>rw [cond_true,ih];simp
   | false=>rw [cond_false,ih];simp
 unfold cu standR
 rw [key,List.nil_append]
theorem An (l:List Interest) (t known:Int):(cu l t known).length≤l.length:=by
 rw [qu];exact List.length_filter_le _ _
theorem Bq {all:List Interest} {x:Interest} (h:x∈all):x.Party∈all.map (·.Party):=List.mem_map_of_mem h
theorem nL.at {all:List Interest} {w:List dN} (h:nL all w) {k:Nat} (hk:k < w.length):(nthI w (k:Int)).gT.length≤8:=h.2.2 _ (fm ⟨by omega,by omega⟩)
theorem cL1 (who:Int) (k:List dN→List Int×Bool×Int):∀ (s:List Interest) (g:List dN),br.L1 who k s g=k (rwFill who s g)
 | [],g=>rfl
 | y::s,g=>by
  simp only [br.L1,rwFill,cL1 who k s]
  cases (!y.Of)&&(y.Person==who) <;> rfl
theorem cL3 (i:Nat) (k:List dN→List Int×Bool×Int) (x:dN):∀ (s:List Interest) (g:List dN),i < g.length→nthI g (i:Int)=x→br.L3 i k s g=k (rwStep x.gT x.To s g)
 | [],g,_,_=>rfl
 | y::s,g,hi,hx=>by
  simp only [br.L3,rwStep,hx]
  rw [cL3 i k x s g hi hx,cL3 i k x s (rwPut g ⟨x.gT++[y.No],y.Party⟩) (Nat.lt_of_lt_of_le hi (Df _ _)) ((Bf _ hi).trans hx)]
  cases y.Of&&(y.Person==x.To) <;> rfl
theorem cL2 (l:List Interest) (ps:List Int) (t known:Int):∀ (n i:Nat) (g:List dN),br.L2 l ps t known br.K2 n i g=((rwLoop ps (standR l t known) n i g).1,(rwLoop ps (standR l t known) n i g).2,0)
 | 0,i,g=>rfl
 | n+1,i,g=>by
  simp only [br.L2,rwLoop]
  rcases Nat.lt_or_ge i g.length with hi | hi
  ·have h1:g[i]? = some g[i]:=List.getElem?_eq_getElem hi
   have h2:decide ((i:Int) < (g.length:Int))=true:=decide_eq_true (by omega)
   rw [h2,cond_true,jb h1,h1,cL3 i _ g[i] _ g hi (jb h1),cL2 l ps t known n (i+1) g,cL2 l ps t known n (i+1),qu]
   dsimp only
   cases iK ps g[i].To with
   | true=>rfl
   | false=>cases ((g[i].gT.length:Nat):Int)==8 <;> rfl
  ·have h2:decide ((i:Int) < (g.length:Int))=false:=decide_eq_false (by omega)
   rw [h2,cond_false,List.getElem?_eq_none hi]
   rfl
theorem En (l:List Interest) (who:Int) (ps:List Int) (t known:Int):br l who ps t known=conflictR l who ps t known:=by
 unfold br conflictR
 cases gK l who ps t known != 0 with
 | true=>rfl
 | false=>
  simp only [cond_false]
  rw [cL1,qu]
  exact cL2 l ps t known _ _ _
theorem free33 (r:Register) (d:Document) (who:List Int) (t known:Int):fu r d who t known=freeR r d who t known:=by
 have key:∀ (s g:List Int),fu.L1 r d t known fu.K1 s g=g++s.filter fun x=>!(conflictR r.Interests x d.Parties t known).2.1:=by
  intro s
  induction s with
  | nil=>intro g;simp [fu.L1,fu.K1]
  | cons y s ih=>
   intro g
   simp only [fu.L1,List.filter_cons,En,ih]
   cases (conflictR r.Interests y d.Parties t known).2.1 <;> simp
 unfold fu freeR
 rw [key,List.nil_append]
theorem E6 (r:Register) (d:Document) (who:List Int) (t known:Int):(fu r d who t known).length≤who.length:=by
 rw [free33];exact List.length_filter_le _ _
theorem would33 (r:Register) (p:Policy) (d:Document) (who:List Int) (t known:Int):eY r p d who t known=wouldR r p d who t known:=by
 have key:∀ (s:List ByteArray) (i:Nat) (g:List (List Holder)) (k:List (List Holder)→Bool),eY.L1 r t known k s i g=k (g++(List.range' i s.length).map fun (j:Nat)=>(bS r.Appoints (j:Int) t known).1):=by
  intro s
  induction s with
  | nil=>intro i g k;simp [eY.L1]
  | cons y s ih=>
   intro i g k
   simp only [eY.L1,ih,List.length_cons,List.range'_succ,List.map_cons,List.append_assoc,List.cons_append,List.nil_append]
 unfold eY wouldR
 rw [key,List.nil_append]
 unfold eY.K1 holdR
 rw [free33,List.range_eq_range']
theorem could33 (r:Register) (d:Document) (who:List Int) (t known:Int):gp r d who t known=couldR r d who t known:=by
 have key:∀ (s:List Int) (g:List Bool) (k:List Bool→Bool),gp.L1 r d who t known k s g=k (g++s.map fun no=>wouldR r (bM r no).Policy d who t known):=by
  intro s
  induction s with
  | nil=>intro g k;simp [gp.L1]
  | cons y s ih=>
   intro g k
   simp only [gp.L1,would33,ih,List.map_cons,List.append_assoc,List.cons_append,List.nil_append]
 unfold gp couldR
 rw [key,List.nil_append]
 rfl
theorem DP {r:Register} (g:px r.Versions) (no:Int):(bM r no).Policy.Rules.length=(bM r no).Policy.Kinds.length:=by
 unfold bM
 rcases mK no r.Versions bM.K1 with e | e
 ·rw [e];rfl
 ·exact (mz (g.each _ e).2.2.2).1
theorem EO {r:Register} (h:okV r.Versions) (no:Int):∀ y∈(bM r no).Policy.Rules,0≤y.Think∧y.Think≤1099511627775:=by
 unfold bM
 rcases mK no r.Versions bM.K1 with e | e
 ·rw [e];intro y hy;exact (List.not_mem_nil hy).elim
 ·exact (h.2 _ e).2
theorem Eu (r:Register) (d:Document):(aD r d).length≤3+r.Appoints.length+r.Interests.length+2 * r.Versions.length:=by
 have k3:∀ (s:List Version) (g:List Int),(aD.L3 d aD.K3 s g).length≤g.length+2 * s.length:=by
  intro s
  induction s with
  | nil=>intro g;exact Nat.le_refl _
  | cons y s ih=>
   intro g
   simp only [aD.L3,Bool.cond_eq_ite,List.length_cons]
   have q:=eW g y.At
   split
   ·have q2:=eW (cj g y.At) (d.At+(nthI y.Policy.Rules d.Kind).Think)
    have:=ih (cj (cj g y.At) (d.At+(nthI y.Policy.Rules d.Kind).Think))
    omega
   ·have:=ih (cj g y.At)
    omega
 have k2:∀ (s:List Interest) (g:List Int),(aD.L2 (aD.K2 r d) s g).length≤g.length+s.length+2 * r.Versions.length:=by
  intro s
  induction s with
  | nil=>intro g;exact k3 r.Versions g
  | cons y s ih=>
   intro g
   have q:=eW g y.At
   have:=ih (cj g y.At)
   simp only [aD.L2,List.length_cons]
   omega
 have k1:∀ (s:List Appoint) (g:List Int),(aD.L1 (aD.K1 r d) s g).length≤g.length+s.length+r.Interests.length+2 * r.Versions.length:=by
  intro s
  induction s with
  | nil=>intro g;have:=k2 r.Interests g;exact this
  | cons y s ih=>
   intro g
   have q:=eW g y.At
   have:=ih (cj g y.At)
   simp only [aD.L1,List.length_cons]
   omega
 have q0:=eW [0] d.At
 have q1:=eW (cj [0] d.At) d.Until
 have:=k1 r.Appoints (cj (cj [0] d.At) d.Until)
 simp only [List.length_cons,List.length_nil] at q0
 show (aD.L1 (aD.K1 r d) r.Appoints (cj (cj [0] d.At) d.Until)).length≤_
 omega
structure IT (r:Register):Prop where
 vers:px r.Versions
 lens:r.Appoints.length≤100000∧r.Interests.length≤100000∧r.Versions.length≤256
 docs:∀ d∈r.Docs,Al d
theorem few9 {r:Register} (hs:smR r) (h:gU r=0):IT r:=by
 obtain ⟨d1,d2,d3,d4,d5,d6,d7⟩:=(oB r).1 ((judge30 hs).2 h)
 have hv:=(je r.Versions).1 d5
 refine ⟨hv,⟨?_,?_,hv.len⟩,sW d6⟩
 ·unfold co at d1
  rw [Bool.cond_eq_ite] at d1
  split at d1
  ·omega
  ·next hc=>simp only [decide_eq_true_eq] at hc;omega
 ·unfold bK at d3
  rw [Bool.cond_eq_ite] at d3
  split at d3
  ·omega
  ·next hc=>simp only [decide_eq_true_eq] at hc;omega
theorem IT.doc {r:Register} (f:IT r) {i:Int} (hi:0≤i∧i < (r.Docs.length:Int)):(0≤(nthI r.Docs i).At∧(nthI r.Docs i).At≤1099511627776)∧0≤(nthI r.Docs i).Kind:=by
 have g:=f.docs _ (fm hi)
 exact ⟨⟨g.at_.1,Int.le_of_lt g.at_.2⟩,g.kind.1⟩
theorem IT.chg {r:Register} (f:IT r) (d:Document):(aD r d).length≤300000:=by
 have:=Eu r d
 have:=f.lens
 omega
theorem tL1 (r:Register) (doc:Int) (who:List Int) (known:Int) (d:Document) (hd:nthI r.Docs (bp r doc)=d) (all:List Int) (ha:aD r d=all) (hi:all.Pairwise (· < ·)) (ht:∀ x∈all,x < 1099511627776):∀ (s pre:List Int) (g:List Span),all=pre++s→dx.L1 r doc who known dx.K1 s pre.length g=((pcs s).foldl (stepT fun t=>couldR r d who t known) g,0)
 | [],pre,g,h=>rfl
 | [y],pre,g,h=>by
  have hl:all.length=pre.length+1:=by rw [h];simp
  have e:decide ((((pre.length+1):Nat):Int) < (all.length:Int))=false:=decide_eq_false (by omega)
  have hy:decide (y < 1099511627776)=true:=decide_eq_true (ht y (by rw [h];simp))
  simp only [dx.L1,hd,ha,e,cond_false,pcs,hy,cond_true,List.foldl_cons,List.foldl_nil,stepT,could33,dx.K1]
  cases couldR r d who y known with
  | false=>rfl
  | true=>
   cases decide (0 < (g.length:Int))&&((nthI g ((g.length:Int) - 1)).Until==y) <;> rfl
 | y::z::s,pre,g,h=>by
  have hl:all.length=pre.length+2+s.length:=by rw [h];simp;omega
  have e:decide ((((pre.length+1):Nat):Int) < (all.length:Int))=true:=decide_eq_true (by omega)
  have hz:nthI all (((pre.length+1):Nat):Int)=z:=jb (by rw [h,show pre++y::z::s=(pre++[y])++z::s from by simp,List.getElem?_append_right (by simp)];simp)
  have hyz:y < z:=by
   rw [h] at hi
   exact (List.pairwise_cons.1 (List.pairwise_append.1 hi).2.1).1 z (List.mem_cons_self ..)
  have hzE:=ht z (by rw [h];simp)
  have hm:min 1099511627776 z=z:=by omega
  have hy:decide (y < min 1099511627776 z)=true:=decide_eq_true (by omega)
  have ih:=fun g=>tL1 r doc who known d hd all ha hi ht (z::s) (pre++[y]) g (by rw [h];simp)
  simp only [List.length_append,List.length_cons,List.length_nil,Nat.zero_add] at ih
  have hp:pcs (y::z::s)=⟨y,z⟩::pcs (z::s):=by simp only [pcs,hm,show decide (y < z)=true from decide_eq_true hyz,cond_true]
  rw [hp,List.foldl_cons]
  generalize hq:z::s=q at ih ⊢
  simp only [dx.L1,hd,ha,e,cond_true,hz,could33,ih,stepT]
  cases couldR r d who y known with
  | false=>rfl
  | true=>
   cases decide (0 < (g.length:Int))&&((nthI g ((g.length:Int) - 1)).Until==y) <;> rfl
theorem Gt (r:Register) (doc:Int) (who:List Int) (known:Int):dx r doc who known=timesR r doc who known:=by
 unfold dx timesR
 cases gU r != 0 with
 | true=>rfl
 | false=>
  simp only [cond_false]
  cases (decide (bp r doc < 0)||(!(df who)))||(!(cn known)) with
  | true=>rfl
  | false=>
   obtain ⟨ch,_⟩:=Ab r (nthI r.Docs (bp r doc))
   exact tL1 r doc who known _ rfl _ rfl ch.inc (fun x hx=>(ch.tm x hx).2) _ [] [] rfl
theorem spec_true {r:Register} (hs:smR r) (doc:Int) (who:List Int) (known:Int):ls r doc who known=true:=by
 unfold ls
 rw [Gn,Gt]
 simp only [Bool.not_true,cond_false]
 cases (!(jN r))||decide (100 < (who.length:Int)) with
 | true=>rfl
 | false=>exact EH hs doc who known
end Go.Sg
namespace Go.Sg
section
variable {P:Program} {b:Frame} {n:Nat} {k:List Item} {F:List Frame→(Machine→Prop)→Prop} {e:Env} {ds:List Deferred} {X:Cx} {h:HF} {L:LH}
variable {ops:Array Oper} {l:List Oper} {d:Nat} {ty:TypeId} {pos:String} {af:Array Edge} {g:Option (Nat×Bool)}
def memN:List Nat→Nat→Bool
 | [],_=>false
 | a::l,s=>bif Nat.beq s a then true else memN l s
def mix (S:List Nat) (e' e:Env):Env:=fun s=>bif memN S s then e' s else e s
def subN:List Nat→List Nat→Bool
 | [],_=>true
 | a::l,S=>memN S a&&subN l S
def Agr (S:List Nat) (e e':Env):Prop:=∀ s,memN S s=false→e' s=e s
theorem sH {S:List Nat} {e:Env}:Agr S e e:=fun _ _=>rfl
theorem vK {S:List Nat} {e e':Env} {d:Nat} {w:Value} (hd:memN S d=true) (h:Agr S e e'):Agr S e (upd e' d w):=fun s hs=>by
 unfold upd
 cases hb:Nat.beq s d with
 | true=>rw [Nat.eq_of_beq_eq_true hb,hd] at hs;cases hs
 | false=>exact h s hs
theorem H5 {S T:List Nat} (h:subN T S=true) {s:Nat} (hs:memN S s=false):memN T s=false:=by
 induction T with
 | nil=>rfl
 | cons a T ih=>
  simp only [subN,Bool.and_eq_true] at h
  simp only [memN]
  cases hb:Nat.beq s a with
  | true=>rw [Nat.eq_of_beq_eq_true hb,h.1] at hs;cases hs
  | false=>exact ih h.2
theorem vL {S T:List Nat} {e e' e2:Env} (hT:subN T S=true) (h:Agr S e e'):Agr S e (mix T e2 e'):=fun s hs=>by
 unfold mix
 rw [H5 hT hs];exact h s hs
theorem FC (m:Nat) (S:List Nat) (d:Nat) (v:Value)
  (t':(∀ e',e' d=v→(ha:Agr S e e':=by repeat (first | exact sH | refine vK rfl ?_ | refine vL rfl ?_))→TO P b n ops (l.drop m) k F e' ds X h L)→TO P b n ops l k F e ds X h L)
  (hk:∀ e'',TO P b n ops (l.drop m) k F (upd (mix S e'' e) d v) ds X h L):TO P b n ops l k F e ds X h L:=
 t' fun e' hv ha=>by
  have e1:upd (mix S e' e) d v=e':=funext fun s=>by
   unfold upd
   cases hb:Nat.beq s d with
   | true=>rw [Nat.eq_of_beq_eq_true hb];exact hv.symm
   | false=>
    show mix S e' e s=e' s
    unfold mix
    cases hm:memN S s with
    | true=>rfl
    | false=>exact (ha s hm).symm
  have:=hk e'
  rw [e1] at this
  exact this
theorem ac {α : Type} {x y z:α} {c:Bool} {o:Operand} {p q:Code} (hs:x=bif c then y else z) (hx:e.ev o=.bool c)
  (t1:c=true→x=y→TT P b n (.code p::k) F e ds X h L) (t2:c=false→x=z→TT P b n (.code q::k) F e ds X h L):TT P b n (.code (.cond o p q)::k) F e ds X h L:=
 j6 hx (fun e'=>t1 e' (hs.trans (by rw [e'];rfl))) (fun e'=>t2 e' (hs.trans (by rw [e'];rfl)))
end
end Go.Sg
namespace Go.Sg
inductive Qs
 | tt (k:List Item) (e:Env)
 | to (ops:Array Oper) (l:List Oper) (k:List Item) (e:Env)
@[reducible] def Qs.holds (P:Program) (b:Frame) (n:Nat) (F:List Frame→(Machine→Prop)→Prop) (ds:List Deferred) (X:Cx) (h:HF) (L:LH):Qs→Prop
 | .tt k e=>TT P b n k F e ds X h L
 | .to ops l k e=>TO P b n ops l k F e ds X h L
def opQ (e:Env):Op→Option Value
 | .move x=>some (e.ev x)
 | .assign x=>some (e.ev x)
 | .pick c x y=>match e.ev c with
  | .bool s=>some (bif s then e.ev x else e.ev y)
  | _=>none
 | .extract x i=>match e.ev x with
  | .tuple ⟨vs⟩=>nth vs i
  | _=>none
 | .unOp .not _ x=>match e.ev x with
  | .bool s=>some (.bool !s)
  | _=>none
 | .binOp op _ x y _=>binV op (e.ev x) (e.ev y)
 | _=>none
def qstepO (n:Nat) (ops:Array Oper) (l:List Oper) (k:List Item) (e:Env):Option Qs:=
 match l with
 | []=>some (.tt k e)
 | ⟨some d,op,ty,pos,af,g⟩::l=>
  match Nat.blt d n with
  | false=>none
  | true=>match guardB ops e ⟨some d,op,ty,pos,af,g⟩ with
   | false=>some (.to ops l k (upd e d undef))
   | true=>match opQ e op with
    | some v=>some (.to ops l k (upd e d v))
    | none=>none
 | _=>none
def qstepT (k:List Item) (e:Env):Option Qs:=
 match k with
 | .code .skip::k=>some (.tt k e)
 | .code (.seq x y)::k=>some (.tt (.code x::.code y::k) e)
 | .code (.block id c)::k=>some (.tt (.code c::.inBlock id::k) e)
 | .inBlock _::k=>some (.tt k e)
 | .code (.exit id)::k=>match exitTo id k with
  | some k'=>some (.tt k' e)
  | none=>none
 | .code (.cond c x y)::k=>match e.ev c with
  | .bool true=>some (.tt (.code x::k) e)
  | .bool false=>some (.tt (.code y::k) e)
  | _=>none
 | .code (.region _ ⟨l⟩ false)::k=>some (.to ⟨l⟩ l k e)
 | _=>none
def runQ (n:Nat):Nat→Qs→Option Qs
 | 0,s=>some s
 | m+1,.tt k e=>match qstepT k e with
  | some s=>runQ n m s
  | none=>none
 | m+1,.to ops l k e=>match qstepO n ops l k e with
  | some s=>runQ n m s
  | none=>none
section
variable {P:Program} {b:Frame} {n:Nat} {k:List Item} {F:List Frame→(Machine→Prop)→Prop} {e:Env} {ds:List Deferred} {X:Cx} {h:HF} {L:LH}
theorem Cm {op:Op} {v:Value} (hv:opQ e op=some v):noDefer op=true∧∀ (d:Option Nat) (ty:TypeId) (pos:String) (af:Array Edge) (g:Option (Nat×Bool)) w,(execOp e.ev ⟨d,op,ty,pos,af,g⟩).run P w=.ok (.value v) w:=by
 unfold opQ at hv
 split at hv
 ·cases hv;exact ⟨rfl,fun _ _ _ _ _ w=>by simp [execOp]⟩
 ·cases hv;exact ⟨rfl,fun _ _ _ _ _ w=>by simp [execOp]⟩
 ·split at hv
  ·next s hc=>cases hv;exact ⟨rfl,fun _ _ _ _ _ w=>by cases s <;> simp [execOp,hc,asBool]⟩
  ·cases hv
 ·split at hv
  ·next vs hx=>exact ⟨rfl,fun _ _ _ _ _ w=>by rw [gy] at hv;simp [execOp,hx,Instr.extract,hv]⟩
  ·cases hv
 ·split at hv
  ·next s hx=>cases hv;exact ⟨rfl,fun _ _ _ _ _ w=>by simp [execOp,hx,Op.unary]⟩
  ·cases hv
 ·next op t x y u=>
  exact ⟨rfl,fun _ _ _ _ _ w=>by
   have:=yA (P:=P) (t:=t) (x:=x) (y:=y) hv w
   simp only [execOp,Sem.run_bind] at this ⊢
   simp [this]⟩
 ·cases hv
theorem Gw {ops:Array Oper} {l:List Oper} {s:Qs} (hs:qstepO n ops l k e=some s) (t:s.holds P b n F ds X h L):TO P b n ops l k F e ds X h L:=by
 unfold qstepO at hs
 split at hs
 ·cases hs;exact aN t
 ·split at hs
  ·cases hs
  ·next hd=>
   split at hs
   ·next hg=>cases hs;exact Cn t hd hg
   ·next hg=>
    split at hs
    ·next v hv=>
     cases hs
     obtain ⟨h1,h2⟩:=Cm (P:=P) hv
     exact po v h1 (fun w _=>h2 _ _ _ _ _ w) hd hg t
    ·cases hs
 ·cases hs
theorem Bi {s:Qs} (hs:qstepT k e=some s) (t:s.holds P b n F ds X h L):TT P b n k F e ds X h L:=by
 unfold qstepT at hs
 split at hs
 ·cases hs;exact aG t
 ·cases hs;exact dB t
 ·cases hs;exact lV t
 ·cases hs;exact e8 t
 ·split at hs
  ·next hx=>cases hs;exact jJ hx t
  ·cases hs
 ·split at hs
  ·next hc=>cases hs;exact lU hc t
  ·next hc=>cases hs;exact lg hc t
  ·cases hs
 ·cases hs;exact bh t
 ·cases hs
theorem xU:∀ (m:Nat) (a:Qs) {s:Qs},runQ n m a=some s→s.holds P b n F ds X h L→a.holds P b n F ds X h L
 | 0,_,_,hr,t=>by cases hr;exact t
 | m+1,.tt k e,s,hr,t=>by
  unfold runQ at hr
  split at hr
  ·next s' hs=>exact Bi hs (xU m s' hr t)
  ·cases hr
 | m+1,.to ops l k e,s,hr,t=>by
  unfold runQ at hr
  split at hr
  ·next s' hs=>exact Gw hs (xU m s' hr t)
  ·cases hr
theorem qT (m:Nat) {s:Qs} (hr:runQ n m (.tt k e)=some s) (t:s.holds P b n F ds X h L):TT P b n k F e ds X h L:=xU m (.tt k e) hr t
theorem qO {ops:Array Oper} {l:List Oper} (m:Nat) {s:Qs} (hr:runQ n m (.to ops l k e)=some s) (t:s.holds P b n F ds X h L):TO P b n ops l k F e ds X h L:=xU m (.to ops l k e) hr t
end
end Go.Sg
namespace Go.Sg
section
variable {P:Program} {b:Frame} {n:Nat} {k:List Item} {F:List Frame→(Machine→Prop)→Prop} {e:Env} {ds:List Deferred} {X:Cx} {h:HF} {L:LH}
theorem rds {p:Prop} (h:p:=by repeat (first | exact trivial | refine ⟨rfl,?_⟩)):p:=h
theorem sws {p:Prop} (h:p:=by first | exact fun w hw=>hw | (intro w hw;first | simpa only [List.append_assoc,List.cons_append,List.nil_append,List.append_nil] using hw | (simp only [List.append_assoc,List.cons_append,List.nil_append,List.append_nil] at hw ⊢;exact hw))):p:=h
theorem ndA {p:Prop} (h:p:=by (intro i g hd hf hx e;refine dB (bh (ae (v':=.bool false) rfl (congrArg Value.bool hf) (aN (dB (lg rfl (jJ rfl (hx _ ?_)))))));exact rds)):p:=h
theorem ndB {p:Prop} (h:p:=by (intro i hd hf hx e;refine dB (bh (ae (v':=.bool false) rfl (congrArg Value.bool hf) (aN (dB (lg rfl (jJ rfl (hx _ ?_)))))));exact rds)):p:=h
theorem lpG {α γ ρ : Type} {id:Nat} {c:Code} {x0:ρ} (xs:List α) (sl:Nat→γ→List (Nat×Value)) (hh:γ→HF) (LL:γ→LH) (J:Nat→γ→Prop) (Lf:List α→Nat→γ→ρ) (g0:γ) (hb:xs.length≤9223372036854775807)
  (hs:x0=Lf xs 0 g0) (hJ:J 0 g0) (h0:jg e (sl 0 g0)) (hw:∀ w,St X h L w→St X (hh g0) (LL g0) w)
  (after:∀ i g,i≤xs.length→x0=Lf [] i g→J i g→∀ e',TT P b n k F (upds e' (sl i g)) ds X (hh g) (LL g))
  (cons:∀ i g y r,xs.drop i=y::r→decide ((i:Int) < (xs.length:Int))=true→xs[i]? = some y→i < xs.length→xs.length≤9223372036854775807→x0=Lf (y::r) i g→J i g →
   (∀ i' g' {e'},x0=Lf [] i' g'→J i' g'→i'≤xs.length→jg e' (sl i' g')→TT P b n k F e' ds X (hh g') (LL g')) →
   (∀ g' {e'},x0=Lf r (i+1) g'→J (i+1) g'→jg e' (sl (i+1) g')→TT P b n (.inLoop c::.inBlock id::k) F e' ds X (hh g') (LL g')) →
   ∀ e',TT P b n (.code c::.inLoop c::.inBlock id::k) F (upds e' (sl i g)) ds X (hh g) (LL g))
  (nil:∀ i g,xs.drop i=[]→decide ((i:Int) < (xs.length:Int))=false→(∀ e',jg e' (sl i g)→TT P b n k F e' ds X (hh g) (LL g)) →
   ∀ e',TT P b n (.code c::.inLoop c::.inBlock id::k) F (upds e' (sl i g)) ds X (hh g) (LL g)):
  TT P b n (.code (.block id (.loop c))::k) F e ds X h L:=by
 refine ji (ι:=Nat×γ) (fun i=>sl i.1 i.2) (fun i=>hh i.2) (fun i=>LL i.2) (fun i=>i.1≤xs.length∧x0=Lf [] i.1 i.2∧J i.1 i.2) ?_ (fun hx=>?_)
 ·rintro ⟨i,g⟩ ⟨h1,h2,h3⟩ e'
  exact after i g h1 h2 h3 e'
 ·refine kT (ι:=Nat×γ×List α) (fun i=>sl i.1 i.2.1) (fun i=>hh i.2.1) (fun i=>LL i.2.1) (fun i=>xs.drop i.1=i.2.2∧i.1≤xs.length∧x0=Lf i.2.2 i.1 i.2.1∧J i.1 i.2.1) (fun i=>i.2.2.length) (0,g0,xs) h0 hw ⟨rfl,Nat.zero_le _,hs,hJ⟩ ?_
  rintro ⟨i,g,s⟩ ⟨hd,hi,hs,hJ⟩ ag e'
  dsimp only at hd hi hs hJ
  rcases s with _ | ⟨y,r⟩
  ·exact nil i g hd (pH hd) (fun e'' hr=>hx (i,g) e'' ⟨hi,hs,hJ⟩ hr) e'
  ·exact cons i g y r hd (tU hd) (uI hd) (j2 hd) hb hs hJ (fun i' g' e'' a b c d=>hx (i',g') e'' ⟨c,a,b⟩ d)
    (fun g' e'' a b hr=>ag (i+1,g',r) e'' (Nat.lt_succ_self _) ⟨mX hd,j2 hd,a,b⟩ hr) e'
theorem lp2 {α γ ρ : Type} {id:Nat} {c:Code} {x0:ρ} (xs:List α) (sl:Nat→γ→List (Nat×Value)) (hh:γ→HF) (LL:γ→LH) (J:Nat→γ→Prop) (Lf:List α→Nat→γ→ρ) (g0:γ) (hb:xs.length≤9223372036854775807)
  (hs:x0=Lf xs 0 g0) (hJ:J 0 g0)
  (after:∀ i g,i≤xs.length→x0=Lf [] i g→J i g→∀ e',TT P b n k F (upds e' (sl i g)) ds X (hh g) (LL g))
  (cons:∀ i g y r,xs.drop i=y::r→decide ((i:Int) < (xs.length:Int))=true→xs[i]? = some y→i < xs.length→xs.length≤9223372036854775807→x0=Lf (y::r) i g→J i g →
   (∀ i' g' {e'},x0=Lf [] i' g'→J i' g'→(hi:i'≤xs.length:=by omega)→(hr:jg e' (sl i' g'):=by exact rds)→TT P b n k F e' ds X (hh g') (LL g')) →
   (∀ g' {e'},x0=Lf r (i+1) g'→J (i+1) g'→(hr:jg e' (sl (i+1) g'):=by exact rds)→TT P b n (.inLoop c::.inBlock id::k) F e' ds X (hh g') (LL g')) →
   ∀ e',TT P b n (.code c::.inLoop c::.inBlock id::k) F (upds e' (sl i g)) ds X (hh g) (LL g))
  (nil:∀ i g,xs.drop i=[]→decide ((i:Int) < (xs.length:Int))=false→(∀ e',jg e' (sl i g)→TT P b n k F e' ds X (hh g) (LL g)) →
   ∀ e',TT P b n (.code c::.inLoop c::.inBlock id::k) F (upds e' (sl i g)) ds X (hh g) (LL g):=by exact ndA)
  (h0:jg e (sl 0 g0):=by exact rds)
  (hw:∀ w,St X h L w→St X (hh g0) (LL g0) w:=by exact sws):
  TT P b n (.code (.block id (.loop c))::k) F e ds X h L:=
 lpG xs sl hh LL J Lf g0 hb hs hJ h0 hw after cons nil
theorem lp1 {α γ ρ : Type} {id:Nat} {c:Code} {x0:ρ} (xs:List α) (sl:Nat→γ→List (Nat×Value)) (L':LH) (Lf:List α→Nat→γ→ρ) (g0:γ) (hb:xs.length≤9223372036854775807) (hs:x0=Lf xs 0 g0)
  (after:∀ i g,i≤xs.length→x0=Lf [] i g→∀ e',TT P b n k F (upds e' (sl i g)) ds X h L')
  (cons:∀ i g y r,xs.drop i=y::r→decide ((i:Int) < (xs.length:Int))=true→xs[i]? = some y→i < xs.length→xs.length≤9223372036854775807→x0=Lf (y::r) i g →
   (∀ i' g' {e'},x0=Lf [] i' g'→(hi:i'≤xs.length:=by omega)→(hr:jg e' (sl i' g'):=by exact rds)→TT P b n k F e' ds X h L') →
   (∀ g' {e'},x0=Lf r (i+1) g'→(hr:jg e' (sl (i+1) g'):=by exact rds)→TT P b n (.inLoop c::.inBlock id::k) F e' ds X h L') →
   ∀ e',TT P b n (.code c::.inLoop c::.inBlock id::k) F (upds e' (sl i g)) ds X h L')
  (nil:∀ i g,xs.drop i=[]→decide ((i:Int) < (xs.length:Int))=false→(∀ e',jg e' (sl i g)→TT P b n k F e' ds X h L') →
   ∀ e',TT P b n (.code c::.inLoop c::.inBlock id::k) F (upds e' (sl i g)) ds X h L':=by exact ndA)
  (h0:jg e (sl 0 g0):=by exact rds)
  (hw:∀ w,St X h L w→St X h L' w:=by exact sws):
  TT P b n (.code (.block id (.loop c))::k) F e ds X h L:=
 lpG xs sl (fun _=>h) (fun _=>L') (fun _ _=>True) Lf g0 hb hs trivial h0 hw (fun i g a b _=>after i g a b) (fun i g y r a1 a2 a3 a4 a5 a6 _ hx ag=>cons i g y r a1 a2 a3 a4 a5 a6 (fun i' g' _ a hi hr=>hx i' g' a trivial hi hr) (fun g' _ a hr=>ag g' a trivial hr)) nil
theorem lp0 {α ρ : Type} {id:Nat} {c:Code} {x0:ρ} (xs:List α) (sl:Nat→List (Nat×Value)) (L':LH) (Lf:List α→Nat→ρ) (hb:xs.length≤9223372036854775807) (hs:x0=Lf xs 0)
  (after:∀ i,i≤xs.length→x0=Lf [] i→∀ e',TT P b n k F (upds e' (sl i)) ds X h L')
  (cons:∀ i y r,xs.drop i=y::r→decide ((i:Int) < (xs.length:Int))=true→xs[i]? = some y→i < xs.length→xs.length≤9223372036854775807→x0=Lf (y::r) i →
   (∀ i' {e'},x0=Lf [] i'→(hi:i'≤xs.length:=by omega)→(hr:jg e' (sl i'):=by exact rds)→TT P b n k F e' ds X h L') →
   (∀ {e'},x0=Lf r (i+1)→(hr:jg e' (sl (i+1)):=by exact rds)→TT P b n (.inLoop c::.inBlock id::k) F e' ds X h L') →
   ∀ e',TT P b n (.code c::.inLoop c::.inBlock id::k) F (upds e' (sl i)) ds X h L')
  (nil:∀ i,xs.drop i=[]→decide ((i:Int) < (xs.length:Int))=false→(∀ e',jg e' (sl i)→TT P b n k F e' ds X h L') →
   ∀ e',TT P b n (.code c::.inLoop c::.inBlock id::k) F (upds e' (sl i)) ds X h L':=by exact ndB)
  (h0:jg e (sl 0):=by exact rds)
  (hw:∀ w,St X h L w→St X h L' w:=by exact sws):
  TT P b n (.code (.block id (.loop c))::k) F e ds X h L:=
 lpG (γ:=Unit) xs (fun i _=>sl i) (fun _=>h) (fun _=>L') (fun _ _=>True) (fun l i _=>Lf l i) () hb hs trivial h0 hw (fun i _ a b _=>after i a b) (fun i _ y r a1 a2 a3 a4 a5 a6 _ hx ag=>cons i y r a1 a2 a3 a4 a5 a6 (fun i' _ a hi hr=>hx i' () a trivial hi hr) (fun a hr=>ag () a trivial hr)) (fun i _=>nil i)
theorem cf {ops:Array Oper} {l:List Oper} (m:Nat) (S:List Nat) (s d:Nat) (y:Bool) {x:Bool} (hx:e s=.bool x)
  (t':x=false→(∀ e',e' d=.bool y→(ha:Agr S e e':=by repeat (first | exact sH | refine vK rfl ?_ | refine vL rfl ?_))→TO P b n ops (l.drop m) k F e' ds X h L)→TO P b n ops l k F (upd e s (.bool false)) ds X h L)
  (hk:∀ e'',TO P b n ops (l.drop m) k F (upd (mix S e'' e) d (.bool (x||y))) ds X h L) 
  (hq:∃ e2,runQ n m (.to ops l k (upd e s (.bool true)))=some (.to ops (l.drop m) k e2)∧e2 d=.bool true∧Agr S e e2:=by exact ⟨_,rfl,rfl,by repeat (first | exact sH | refine vK rfl ?_ | refine vL rfl ?_)⟩):TO P b n ops l k F e ds X h L:=by
 refine FC m S d (.bool (x||y)) (fun hj=>?_) hk
 refine mG s hx (fun c=>?_) (fun c=>t' c (fun e' he ha=>hj e' (he.trans (by rw [c];rfl)) ha))
 obtain ⟨e2,h1,h2,h3⟩:=hq
 exact qO m h1 (hj e2 (h2.trans (by rw [c];rfl)) h3)
theorem bz {ops:Array Oper} {l:List Oper} (m:Nat) (S:List Nat) (s d:Nat) (y:Bool) {x:Bool} (hx:e s=.bool x)
  (t':x=true→(∀ e',e' d=.bool y→(ha:Agr S e e':=by repeat (first | exact sH | refine vK rfl ?_ | refine vL rfl ?_))→TO P b n ops (l.drop m) k F e' ds X h L)→TO P b n ops l k F (upd e s (.bool true)) ds X h L)
  (hk:∀ e'',TO P b n ops (l.drop m) k F (upd (mix S e'' e) d (.bool (x&&y))) ds X h L)
  (hq:∃ e2,runQ n m (.to ops l k (upd e s (.bool false)))=some (.to ops (l.drop m) k e2)∧e2 d=.bool false∧Agr S e e2:=by exact ⟨_,rfl,rfl,by repeat (first | exact sH | refine vK rfl ?_ | refine vL rfl ?_)⟩):TO P b n ops l k F e ds X h L:=by
 refine FC m S d (.bool (x&&y)) (fun hj=>?_) hk
 refine mG s hx (fun c=>t' c (fun e' he ha=>hj e' (he.trans (by rw [c];rfl)) ha)) (fun c=>?_)
 obtain ⟨e2,h1,h2,h3⟩:=hq
 exact qO m h1 (hj e2 (h2.trans (by rw [c];rfl)) h3)
theorem Jy {ops:Array Oper} {l:List Oper} (s:Nat) (v:Value) (hv:e s=v) (t:TO P b n ops l k F (upd e s v) ds X h L):TO P b n ops l k F e ds X h L:=by
 rw [← hv,pJ] at t;exact t
end
def look3:List (Nat×Nat×Nat)→Nat→Nat→Option Nat
 | [],_,_=>none
 | (a,b,c)::l,s,i=>bif Nat.beq a s&&Nat.beq b i then some c else look3 l s i
def tabOk (P:Program) (tF:List (Nat×Nat×Nat)) (tY tS:List Nat):Bool:=
 tF.all (fun x=>fldOf P x.1 x.2.1==some x.2.2)&&tY.all (fun t=>tySz P t==some (1,false))&&tS.all (fun t=>match P.underlying t with | some (.slice _)=>true | _=>false)
def Jw:List (Nat×Nat)→Prop
 | []=>True
 | (a,b)::q=>a=b∧Jw q
def runL (tF:List (Nat×Nat×Nat)) (tY tS:List Nat) (n:Nat) (L:LH):Nat→List Nat→Qs→Option (Qs×List (Nat×Nat))
 | 0,_,s=>some (s,[])
 | m+1,is,.tt k e=>match qstepT k e with
  | some s=>runL tF tY tS n L m is s
  | none=>none
 | m+1,is,.to ops [] k e=>runL tF tY tS n L m is (.tt k e)
 | m+1,is,.to ops (⟨some d,op,ty,pos,af,g⟩::l) k e=>match Nat.blt d n with
  | false=>none
  | true=>match guardB ops e ⟨some d,op,ty,pos,af,g⟩ with
   | false=>runL tF tY tS n L m is (.to ops l k (upd e d undef))
   | true=>match op with
    | .fieldAddr s x i=>match e.ev x,look3 tF s i with
     | .pointer (some a),some off=>runL tF tY tS n L m is (.to ops l k (upd e d (.pointer (some (a.add off)))))
     | _,_=>none
    | .load t x=>match e.ev x,is with
     | .pointer (some ⟨bk,off,none⟩),i::is=>match nth L i with
      | some (bk',.cells ⟨cl⟩ _ _)=>match nth cl off,memN tY t with
       | some v,true=>match runL tF tY tS n L m is (.to ops l k (upd e d v)) with
        | some (s,q)=>some (s,(bk,bk')::q)
        | none=>none
       | _,_=>none
      | _=>none
     | _,_=>none
    | .call ⟨.builtin .len,⟨[x]⟩,⟨[t]⟩⟩=>match e.ev x,memN tS t with
     | .slice _ m' _,true=>runL tF tY tS n L m is (.to ops l k (upd e d (.int .i64 (m':Int))))
     | _,_=>none
    | op=>match opQ e op with
     | some v=>runL tF tY tS n L m is (.to ops l k (upd e d v))
     | none=>none
 | _+1,_,.to _ _ _ _=>none
theorem zj:∀ {l:List Nat} {a:Nat},memN l a=true→a∈l
 | [],_,h=>by cases h
 | b::l,a,h=>by
  unfold memN at h
  cases hb:Nat.beq a b with
  | true=>rw [Nat.eq_of_beq_eq_true hb];exact List.mem_cons_self ..
  | false=>rw [hb] at h;exact List.mem_cons_of_mem _ (zj h)
theorem wl:∀ {l:List (Nat×Nat×Nat)} {s i o:Nat},look3 l s i=some o→(s,i,o)∈l
 | [],_,_,_,h=>by cases h
 | (a,b,c)::l,s,i,o,h=>by
  unfold look3 at h
  cases hb:Nat.beq a s&&Nat.beq b i with
  | true=>
   rw [hb] at h;cases h
   simp only [Bool.and_eq_true] at hb
   rw [Nat.eq_of_beq_eq_true hb.1,Nat.eq_of_beq_eq_true hb.2];exact List.mem_cons_self ..
  | false=>rw [hb] at h;exact List.mem_cons_of_mem _ (wl h)
section
variable {P:Program} {b:Frame} {n:Nat} {k:List Item} {F:List Frame→(Machine→Prop)→Prop} {e:Env} {ds:List Deferred} {X:Cx} {h:HF} {L:LH}
theorem nR {tF:List (Nat×Nat×Nat)} {tY tS:List Nat} (hT:tabOk P tF tY tS=true):∀ (m:Nat) (is:List Nat) (a:Qs) {s:Qs} {q:List (Nat×Nat)},runL tF tY tS n L m is a=some (s,q)→Jw q→s.holds P b n F ds X h L→a.holds P b n F ds X h L
 | 0,is,a,s,q,hr,hq,t=>by
  simp only [runL,Option.some.injEq,Prod.mk.injEq] at hr;rw [hr.1];exact t
 | m+1,is,.tt k e,s,q,hr,hq,t=>by
  unfold runL at hr
  split at hr
  ·next hs=>exact Bi hs (nR hT m _ _ hr hq t)
  ·cases hr
 | m+1,is,.to ops [] k e,s,q,hr,hq,t=>by
  unfold runL at hr
  exact aN (nR hT m _ _ hr hq t)
 | m+1,is,.to ops (⟨none,op,ty,pos,af,g⟩::l) k e,s,q,hr,hq,t=>by
  unfold runL at hr
  cases hr
 | m+1,is,.to ops (⟨some d,op,ty,pos,af,g⟩::l) k e,s,q,hr,hq,t=>by
  have hT':=hT
  simp only [tabOk,Bool.and_eq_true,List.all_eq_true] at hT'
  obtain ⟨⟨h1,h2⟩,h3⟩:=hT'
  unfold runL at hr
  split at hr
  ·cases hr
  ·next hd=>
   split at hr
   ·next hg=>exact Cn (nR hT m _ _ hr hq t) hd hg
   ·next hg=>
    split at hr
    ·split at hr
     ·next hx hl=>exact HX (by simpa using h1 _ (wl hl)) hx (nR hT m _ _ hr hq t) hd hg
     ·cases hr
    ·split at hr
     ·next hx=>
      split at hr
      ·next hn=>
       split at hr
       ·next hv hm=>
        split at hr
        ·next hr2=>
         cases hr
         obtain ⟨e1,hq⟩:=hq
         subst e1
         exact DA _ (by simpa using h2 _ (zj hm)) hx hn hv (nR hT m _ _ hr2 hq t) hd hg
        ·cases hr
       ·cases hr
      ·cases hr
     ·cases hr
    ·split at hr
     ·next hx hm=>
      have:=h3 _ (zj hm)
      split at this
      ·next hu=>exact KF hu hx (nR hT m _ _ hr hq t) hd hg
      ·cases this
     ·cases hr
    ·split at hr
     ·next v hv=>
      obtain ⟨g1,g2⟩:=Cm (P:=P) hv
      exact po v g1 (fun w _=>g2 _ _ _ _ _ w) hd hg (nR hT m _ _ hr hq t)
     ·cases hr
end
theorem sT {P:Program} {f:FuncId} {fn:Func} {c:Code} {n:Nat} {args:List Value} {h:HF} {A:LH} {R:Ending→HF→LH→Prop}
  (hf:P.funcs[f]? = some fn) (hb:fn.body=some c) (hn:fn.ntmps=n) (hle:Nat.ble args.length n=true)
  (t:∀ X:Cx,X.M=A.map (·.1)→X.h0=h→P.funcs[f]? = some fn→TT P (bodyFrame f) n [.code c] (lS P X R) (envArgs args) [] X h A):nB P f args.toArray h A R:=
 cT hf hb hn hle fun X a b=>t X a b hf
section
variable {P:Program} {f:FuncId} {n:Nat} {k:List Item} {e:Env} {X:Cx} {h:HF} {L:LH} {fn:Func} {rs:List ResultVar} {φ : Value→HF→Prop}
theorem nretP {v:Value} {hh:HF} (vs:List Value) (hvv:retVal vs=v) (hf:P.funcs[f]? = some fn:=by assumption) (hr:fn.results=rs.toArray:=by rfl) (hX:X.h0=hh:=by assumption) (hv:rj P e L rs vs:=by exact rds):
  TT P (bodyFrame f) n (.code .ret::k) (lS P X (fun x h' B=>x=.returned v∧h'=hh∧B=[])) e [] X h L:=BT vs hf hr hX hv hvv
theorem nretH (vs:List Value) (hφ : φ (retVal vs) h) (hf:P.funcs[f]? = some fn:=by assumption) (hr:fn.results=rs.toArray:=by rfl) (hv:rj P e L rs vs:=by exact rds):
  TT P (bodyFrame f) n (.code .ret::k) (lS P X (fun x h' B=>B=[]∧∃ v,x=.returned v∧φ v h')) e [] X h L:=fS vs hf hr hv hφ
end
section grows
variable {P:Program} {b:Frame} {n:Nat} {ops:Array Oper} {F:List Frame→(Machine→Prop)→Prop} {e:Env} {ds:List Deferred} {X:Cx} {h:HF} {L:LH} {K:Env→HF→LH→Prop} {d:Option Nat} {ty:TypeId} {pos:String} {af:Array Edge} {g:Option (Nat×Bool)}
variable {α : Type} {R:Rp α} {E:TypeId} {xs:List α} {base:Option Addr} {cap bk:Nat} {G:LH}
def InO (base:Option Addr) (G:LH) (k:Nat) (cs:List Value):Prop:=∃ bk arr T fz,base=some ⟨bk,0,none⟩∧G=[(bk,Obj.cells (List.toArray arr) T fz)]∧∀ off v,nth cs off=some v→nth arr (k+off)=some v
theorem cJ.elem {h0:HF} {i:Nat} {y:α} (hG:cJ R E h0 xs base cap G) (hi:xs[i]? = some y):∃ cs,R.rep h0 cs y∧InO base G (i * R.sz) cs:=by
 rcases hG with ⟨rfl,_⟩ | ⟨bk',cl,sp,e1,hc,_,_,_,rfl⟩
 ·simp at hi
 ·obtain ⟨cs,hl,hr,hcell⟩:=hc.get i y hi
  refine ⟨cs,hr,bk',cl++sp,E,(0,0),e1,rfl,fun off v hv=>?_⟩
  rw [gy] at hv ⊢
  have h9:=hcell off v hv
  rw [List.getElem?_append_left (by
   rcases Nat.lt_or_ge (i * R.sz+off) cl.length with q | q
   ·exact q
   ·simp [List.getElem?_eq_none q] at h9)]
  exact h9
theorem za {t:TypeId} {x:Operand} {m k off:Nat} {v:Value} {cs:List Value} (hT:tySz P t=some (m,false)) (hI:InO base G k cs) (hb:base=some ⟨bk,0,none⟩) (hv:nth cs off=some v)
  (hx:e.ev x=.pointer (some ⟨bk,k+off,none⟩)) (hm:∀ p∈G,p∈L):∀ w,St X h L w→(execOp e.ev ⟨d,.load t x,ty,pos,af,g⟩).run P w=.ok (.value v) w:=by
 obtain ⟨bk',arr,T,fz,e1,rfl,hc⟩:=hI
 rw [hb] at e1
 cases e1
 exact fw hT hx (hm _ (List.mem_singleton.2 rfl)) (hc off v hv)
theorem dU {α ρ : Type} {R:Rp α} {C:α→ρ→List Value} {ok:HF→α→ρ→Prop} {t E:TypeId} {x ix:Operand} {a:Bool} {base:Option Addr} {m cap:Nat} {xs:List α} {y:α} {z:Int} (hT:P.underlying t=some (.slice E)) (hS:tySz P E=some (R.sz,a))
  (hR:SlB R h base xs) (hz:0≤z∧z < (xs.length:Int)) (hj:xs[z.toNat]? = some y) (hx:e.ev x=.slice base m cap) (hm:m=xs.length) (hix:e.ev ix=.int .i64 z)
  (hC:∀ h cs y,R.rep h cs y→∃ r,cs=C y r∧ok h y r) (t':∀ q r,At h q (C y r)→ok h y r→K (pute e d (.pointer (some q))) h L)
  (hg:guardB ops e ⟨d,.indexAddr t x ix,ty,pos,af,g⟩=true:=by rfl):Stp P b n ops F ds X ⟨d,.indexAddr t x ix,ty,pos,af,g⟩ e h L K:=
 wX hT hS hR hz hj hx hm hix (fun q cs A ln rr=>by obtain ⟨r,e1,o1⟩:=hC _ _ _ rr;subst e1;exact t' q r A o1) hg
theorem mH (A0 G Q:LH) (LL:LH→LH) {ys:List α} {f:FuncId} {ass:Array Operand} {ats:Array TypeId} {vs:List Value}
  (hc:∀ args w,(callFunc f args).run P w=.ok (.enter f args) w) (hs:nB P f vs.toArray h G (fun r h' G'=>∃ b c,h'=h∧r=.returned (.slice b ys.length c)∧cJ R E h ys b c G')) (hL:L=A0++(G++Q)) (hLL:∀ G,A0++(G++Q)=LL G) (hvs:ass.toList.map e.ev=vs)
  (t':∀ b c G',cJ R E h ys b c G'→K (pute e d (.slice b ys.length c)) h (LL G'))
  (hg:guardB ops e ⟨d,.call ⟨.value (.func f),ass,ats⟩,ty,pos,af,g⟩=true:=by rfl):
  Stp P b n ops F ds X ⟨d,.call ⟨.value (.func f),ass,ats⟩,ty,pos,af,g⟩ e h L K:=by
 unfold Stp
 rw [if_pos hg]
 intro w hw
 subst hL
 have hp:∀ G:LH,(A0++(G++Q)).Perm (G++(A0++Q)):=fun G=>by
  rw [← List.append_assoc,← List.append_assoc];exact List.Perm.append_right Q List.perm_append_comm
 have hw':=hw.perm (hp G)
 have harr:ass.map e.ev=vs.toArray:=Array.ext' (by simp [← hvs])
 have hr:(execOp e.ev ⟨d,.call ⟨.value (.func f),ass,ats⟩,ty,pos,af,g⟩).run P w=.ok (.enter f vs.toArray) w:=by
  simp [execOp,resolve,Env.ev,Deferred.ofValue,invoke,harr,hc]
 rw [hr]
 refine jF (by simp) (jf (nM.mono (hs w hw'.pre.left) ?_))
 rintro x w' ⟨h',B,hst,bb,cc,rfl,rfl,hG⟩
 exact ⟨h',_,hLL B ▸ (St.after (A:=G) (F:=A0++Q) hw' hst).perm (hp B).symm,t' bb cc B hG⟩
end grows
end Go.Sg
namespace Go.Sg
theorem U.{u} {α : Sort u} {a:α}:a=a:=rfl
theorem kr {p:Prop} (h:p:=by kernel_rfl):p:=h
theorem ob {p:Prop} (h:p:=by first | assumption | omega | (simp only [] ;assumption) | (simp only [decide_eq_true_eq,decide_eq_false_iff_not,Bool.and_eq_true,Bool.or_eq_true,Bool.not_eq_true',Bool.not_eq_false',Bool.and_eq_false_iff,Bool.or_eq_false_iff,beq_iff_eq,beq_eq_false_iff_ne,bne_iff_ne,bne_eq_false_iff_eq,List.length_append,List.length_cons,List.length_nil,List.length_drop] at *;omega)):p:=h
theorem lo {p:Prop} (h:p:=by simp only [List.length_append,List.length_cons,List.length_nil,List.length_take,List.length_drop];omega):p:=h
theorem ap {p:Prop} (h:p:=by first | rfl | (simp only [List.append_assoc,List.cons_append,List.nil_append,List.append_nil];done) | (simp only [List.append_assoc,List.cons_append,List.nil_append,List.append_nil];rfl) | (rw [List.append_nil] <;> rfl) | (simp only [dropNth,List.append_assoc,List.cons_append,List.nil_append,List.append_nil];done)):p:=h
theorem lc {p:Prop} (h:p:=by first | omega | (simp only [List.length_nil,List.length_cons] at *;omega)):p:=h
theorem rd {p:Prop} (h:p:=by repeat (first | exact trivial | refine ⟨rfl,?_⟩)):p:=h
theorem jn {h:HF} {K L:LH} (hs:K.Sublist L:=by repeat (first | exact List.Sublist.refl _ | exact List.nil_sublist _ | exact List.sublist_append_left _ _ | refine List.Sublist.cons_cons _ ?_ | refine List.Sublist.cons _ ?_)):Jst h K h L:=Cs hs
theorem js {K L:LH} (hs:K.Sublist L:=by repeat (first | exact List.Sublist.refl _ | exact List.nil_sublist _ | exact List.sublist_append_left _ _ | refine List.Sublist.cons_cons _ ?_ | refine List.Sublist.cons _ ?_)):K.Sublist L:=hs
theorem mh {G L:LH} (h:∀ p∈G,p∈L:=by intro p hp;simp only [List.mem_append,List.mem_cons,hp,true_or,or_true]):∀ p∈G,p∈L:=h
theorem mj {h1 h':HF} {K L' G:LH} (hj:Jst h1 K h' L') (h:∀ p∈G,p∈K:=by intro p hp;simp only [List.mem_append,List.mem_cons,hp,true_or,or_true]):∀ p∈G,p∈L':=fun p hp=>hj.2 p (h p hp)
theorem ei {α : Type} {R:Rp α} {enc:α→List Value} (h:∀ h cs x,R.rep h cs x→cs=enc x:=by exact fun _ _ _ e=>e):∀ h cs x,R.rep h cs x→cs=enc x:=h
theorem lf {h:HF}:h.le h:=HF.le_refl h
theorem xf {p:Prop} (h:p:=by first | exact fun _ _ _ h=>h.elim | exact fun _ _ _ _ h=>h.elim):p:=h
theorem cb {a b:Bool} (h:a=b):Value.bool a=Value.bool b:=congrArg Value.bool h
theorem cs {a b:Bool} (h:a=b):Value.bool b=Value.bool a:=congrArg Value.bool h.symm
theorem ci {a b:Int} (h:a=b):Value.int .i64 b=Value.int .i64 a:=congrArg (Value.int .i64) h.symm
abbrev O (l:List Value) (t:Nat):Obj:=Obj.cells l.toArray t (0,0)
abbrev Y (x:Int):Value:=.int .u8 x
abbrev Q (b:Nat):Value:=.pointer (some ⟨b,0,none⟩)
abbrev I (x:Int):Value:=.int .i64 x
theorem HF.le.t {a b c:HF} (x:a.le b) (y:b.le c):a.le c:=HF.le_trans x y
section
variable {P:Program} {b:Frame} {n:Nat} {k:List Item} {F:List Frame→(Machine→Prop)→Prop} {ds:List Deferred} {X:Cx}
theorem tf (i:Nat) {l:List Oper} {h1:HF} {K:LH} {m d:Nat} {oi:Oper} {v:Value} {dn:List Nat} {e:Env} {h:HF} {L:LH}
  (hi:nth l i=some oi) (hd:oi.dst=some d)
  (hr:∀ h' L',Jst h1 K h' L'→∀ w,St X h' L' w→(execOp e.ev oi).run P w=.ok (.value v) w)
  (t:TA P b n l.toArray k F ds X (Jst h1 K) m (i::dn) (upd e d v) h L) (hsep:sepAll l.toArray=true:=by assumption) (hJ:Jst h1 K h L:=by exact jn) (hn:(nexts l.toArray dn).contains i=true:=by kernel_rfl) (hg:guardB l.toArray e oi=true:=by rfl):TA P b n l.toArray k F ds X (Jst h1 K) (m+1) dn e h L:=
 lH i hsep hJ hi hd hn hg hr t
theorem tm (i:Nat) {l:List Oper} {h1:HF} {K:LH} {m d:Nat} {x:Operand} {ty:TypeId} {pos:String} {af:Array Edge} {g:Option (Nat×Bool)} {dn:List Nat} {e:Env} {h:HF} {L:LH}
  (hi:nth l i=some ⟨some d,.move x,ty,pos,af,g⟩)
  (t:TA P b n l.toArray k F ds X (Jst h1 K) m (i::dn) (upd e d (e.ev x)) h L) (hsep:sepAll l.toArray=true:=by assumption) (hJ:Jst h1 K h L:=by exact jn) (hn:(nexts l.toArray dn).contains i=true:=by kernel_rfl) (hg:guardB l.toArray e ⟨some d,.move x,ty,pos,af,g⟩=true:=by rfl):TA P b n l.toArray k F ds X (Jst h1 K) (m+1) dn e h L:=
 lH i hsep hJ hi rfl hn hg (fun _ _ _=>Cb) t
theorem tk (i:Nat) {l:List Oper} {h1:HF} {K:LH} {m d:Nat} {oi:Oper} {dn:List Nat} {e:Env} {h:HF} {L:LH}
  (hi:nth l i=some oi) (hd:oi.dst=some d)
  (t:TA P b n l.toArray k F ds X (Jst h1 K) m (i::dn) (upd e d undef) h L) (hsep:sepAll l.toArray=true:=by assumption) (hJ:Jst h1 K h L:=by exact jn) (hn:(nexts l.toArray dn).contains i=true:=by kernel_rfl) (hg:guardB l.toArray e oi=false:=by rfl):TA P b n l.toArray k F ds X (Jst h1 K) (m+1) dn e h L:=
 BV i hsep hJ hi hd hn hg t
theorem tn (i:Nat) {l:List Oper} {h1:HF} {K:LH} {m:Nat} {oi:Oper} {dn:List Nat} {e:Env} {h:HF} {L:LH} (hi:nth l i=some oi)
  (t:Stp P b n l.toArray F ds X oi e h L fun e' h' L'=>Jst h1 K h' L'∧TA P b n l.toArray k F ds X (Jst h1 K) m (i::dn) e' h' L') (hn:nexts l.toArray dn=[i]:=by kernel_rfl):TA P b n l.toArray k F ds X (Jst h1 K) (m+1) dn e h L:=
 JY i hn hi t
theorem sr {id:Nat} {l:List Oper} {y:Code} {e:Env} {h:HF} {L:LH} (t:TO P b n l.toArray l (.code y::k) F e ds X h L):TT P b n (.code (.seq (.region id l.toArray false) y)::k) F e ds X h L:=dB (bh t)
theorem an {ops:Array Oper} {d:Nat} {x:Operand} {ty:TypeId} {pos:String} {af:Array Edge} {g:Option (Nat×Bool)} {e:Env} {h:HF} {L:LH} (t:TT P b n k F (upd e d (e.ev x)) ds X h L) (hd:Nat.blt d n=true:=by rfl) (hg:guardB ops e ⟨some d,.assign x,ty,pos,af,g⟩=true:=by rfl):TO P b n ops [⟨some d,.assign x,ty,pos,af,g⟩] k F e ds X h L:=fj (aN t) hd hg
theorem kq {ops:Array Oper} {l:List Oper} {d d':Nat} {op op':Op} {ty ty':TypeId} {pos pos':String} {af af':Array Edge} {g g':Option (Nat×Bool)} {e:Env} {h:HF} {L:LH} (t:TO P b n ops l k F (upd (upd e d undef) d' undef) ds X h L) (hd:Nat.blt d n=true:=by rfl) (hg:guardB ops e ⟨some d,op,ty,pos,af,g⟩=false:=by rfl)
  (hd':Nat.blt d' n=true:=by rfl) (hg':guardB ops (upd e d undef) ⟨some d',op',ty',pos',af',g'⟩=false:=by rfl):TO P b n ops (⟨some d,op,ty,pos,af,g⟩::⟨some d',op',ty',pos',af',g'⟩::l) k F e ds X h L:=Cn (Cn t hd' hg') hd hg
theorem tq {ops:Array Oper} {l:List Oper} {e:Env} {h:HF} {L:LH} (m:Nat) (sl:List (Nat×Value)) (t':(∀ e',jg e' sl→TO P b n ops (l.drop m) k F e' ds X h L)→TO P b n ops l k F e ds X h L) (hk:∀ e',TO P b n ops (l.drop m) k F (upds e' sl) ds X h L):TO P b n ops l k F e ds X h L:=JW m sl hk t'
def runA (l:List Oper):List Nat→Nat→List Nat→Env→Option (Nat×List Nat×Env)
 | [],m,dn,e=>some (m,dn,e)
 | i::is,m,dn,e=>match m with
  | 0=>none
  | m+1=>match nth l i with
   | some ⟨some d,op,ty,pos,af,g⟩=>match guardB l.toArray e ⟨some d,op,ty,pos,af,g⟩ with
    | false=>runA l is m (i::dn) (upd e d undef)
    | true=>match opQ e op with
     | some v=>runA l is m (i::dn) (upd e d v)
     | none=>none
   | _=>none
def allNext (l:List Oper):List Nat→List Nat→Bool
 | [],_=>true
 | i::is,dn=>(nexts l.toArray dn).contains i&&allNext l is (i::dn)
theorem xW {l:List Oper} {h1:HF} {K:LH} {h:HF} {L:LH} (hsep:sepAll l.toArray=true) (hJ:Jst h1 K h L):∀ (is:List Nat) (m:Nat) (dn:List Nat) (e:Env) {m':Nat} {dn':List Nat} {e':Env},runA l is m dn e=some (m',dn',e')→allNext l is dn=true→TA P b n l.toArray k F ds X (Jst h1 K) m' dn' e' h L→TA P b n l.toArray k F ds X (Jst h1 K) m dn e h L
 | [],m,dn,e,_,_,_,hr,_,t=>by cases hr;exact t
 | i::is,0,dn,e,_,_,_,hr,_,_=>by simp [runA] at hr
 | i::is,m+1,dn,e,_,_,_,hr,hn,t=>by
  simp only [allNext,Bool.and_eq_true] at hn
  simp only [runA] at hr
  split at hr
  ·next hi=>
   split at hr
   ·next hg=>exact BV i hsep hJ hi rfl hn.1 hg (xW hsep hJ is m _ _ hr hn.2 t)
   ·next hg=>
    split at hr
    ·next v hv=>exact lH i hsep hJ hi rfl hn.1 hg (fun _ _ _ w _=>(Cm hv).2 _ _ _ _ _ w) (xW hsep hJ is m _ _ hr hn.2 t)
    ·cases hr
  ·cases hr
theorem qA (is:List Nat) {l:List Oper} {h1:HF} {K:LH} {m:Nat} {dn:List Nat} {e:Env} {h:HF} {L:LH} {m':Nat} {dn':List Nat} {e':Env} (hr:runA l is m dn e=some (m',dn',e')) (t:TA P b n l.toArray k F ds X (Jst h1 K) m' dn' e' h L)
  (hsep:sepAll l.toArray=true:=by assumption) (hJ:Jst h1 K h L:=by exact jn) (hn:allNext l is dn=true:=by kernel_rfl):TA P b n l.toArray k F ds X (Jst h1 K) m dn e h L:=xW hsep hJ is m dn e hr hn t
theorem qR (a c:Nat) {l:List Oper} {h1:HF} {K:LH} {m:Nat} {dn:List Nat} {e:Env} {h:HF} {L:LH} {m':Nat} {dn':List Nat} {e':Env} (hr:runA l (List.range' a c) m dn e=some (m',dn',e')) (t:TA P b n l.toArray k F ds X (Jst h1 K) m' dn' e' h L)
  (hsep:sepAll l.toArray=true:=by assumption) (hJ:Jst h1 K h L:=by exact jn) (hn:allNext l (List.range' a c) dn=true:=by kernel_rfl):TA P b n l.toArray k F ds X (Jst h1 K) m dn e h L:=xW hsep hJ _ m dn e hr hn t
def opB (tF:List (Nat×Nat×Nat)) (e:Env):Op→Option Value
 | .fieldAddr s x i=>match e.ev x,look3 tF s i with
  | .pointer (some a),some off=>some (.pointer (some (a.add off)))
  | _,_=>none
 | op=>opQ e op
theorem Kc {tF:List (Nat×Nat×Nat)} (hT:(tF.all fun x=>fldOf P x.1 x.2.1==some x.2.2)=true) {op:Op} {e:Env} {v:Value} (hv:opB tF e op=some v) (h:HF) (L:LH) (d:Option Nat) (ty:TypeId) (pos:String) (af:Array Edge) (g:Option (Nat×Bool)):∀ w,St X h L w→(execOp e.ev ⟨d,op,ty,pos,af,g⟩).run P w=.ok (.value v) w:=by
 unfold opB at hv
 split at hv
 ·split at hv
  ·next hx hl=>
   cases hv
   exact nn (by simpa using (List.all_eq_true.1 hT) _ (wl hl)) hx
  ·cases hv
 ·exact fun w _=>(Cm hv).2 _ _ _ _ _ w
def runB (tF:List (Nat×Nat×Nat)) (l:List Oper):List Nat→Nat→List Nat→Env→Option (Nat×List Nat×Env)
 | [],m,dn,e=>some (m,dn,e)
 | i::is,m,dn,e=>match m with
  | 0=>none
  | m+1=>match nth l i with
   | some ⟨some d,op,ty,pos,af,g⟩=>match guardB l.toArray e ⟨some d,op,ty,pos,af,g⟩ with
    | false=>runB tF l is m (i::dn) (upd e d undef)
    | true=>match opB tF e op with
     | some v=>runB tF l is m (i::dn) (upd e d v)
     | none=>none
   | _=>none
theorem xV {tF:List (Nat×Nat×Nat)} (hT:(tF.all fun x=>fldOf P x.1 x.2.1==some x.2.2)=true) {l:List Oper} {h1:HF} {K:LH} {h:HF} {L:LH} (hsep:sepAll l.toArray=true) (hJ:Jst h1 K h L):∀ (is:List Nat) (m:Nat) (dn:List Nat) (e:Env) {m':Nat} {dn':List Nat} {e':Env},runB tF l is m dn e=some (m',dn',e')→allNext l is dn=true→TA P b n l.toArray k F ds X (Jst h1 K) m' dn' e' h L→TA P b n l.toArray k F ds X (Jst h1 K) m dn e h L
 | [],m,dn,e,_,_,_,hr,_,t=>by cases hr;exact t
 | i::is,0,dn,e,_,_,_,hr,_,_=>by simp [runB] at hr
 | i::is,m+1,dn,e,_,_,_,hr,hn,t=>by
  simp only [allNext,Bool.and_eq_true] at hn
  simp only [runB] at hr
  split at hr
  ·next hi=>
   split at hr
   ·next hg=>exact BV i hsep hJ hi rfl hn.1 hg (xV hT hsep hJ is m _ _ hr hn.2 t)
   ·next hg=>
    split at hr
    ·next v hv=>exact lH i hsep hJ hi rfl hn.1 hg (fun h' L' _ w hw=>Kc hT hv h' L' _ _ _ _ _ w hw) (xV hT hsep hJ is m _ _ hr hn.2 t)
    ·cases hr
  ·cases hr
theorem tu {ops:Array Oper} {h1 h2:HF} {K:LH} (hle:h1.le h2) {m:Nat} {dn:List Nat} {e:Env} {h:HF} {L:LH} (t:TA P b n ops k F ds X (Jst h2 K) m dn e h L):TA P b n ops k F ds X (Jst h1 K) m dn e h L:=kV hle (fun _ hp=>hp) t
end
theorem jl {h h2:HF} {K L:LH} (hle:h.le h2) (hs:K.Sublist L:=by repeat (first | exact List.Sublist.refl _ | exact List.nil_sublist _ | exact List.sublist_append_left _ _ | refine List.Sublist.cons_cons _ ?_ | refine List.Sublist.cons _ ?_)):Jst h K h2 L:=⟨hle,fun _ hp=>hs.subset hp⟩
theorem sw {p:Prop} (h:p:=by first | exact fun w hw=>hw | (intro w hw;first | simpa only [List.append_assoc,List.cons_append,List.nil_append,List.append_nil] using hw | (simp only [List.append_assoc,List.cons_append,List.nil_append,List.append_nil] at hw ⊢;exact hw))):p:=h
end Go.Sg
namespace Go.Sg
open Go.Proofs
abbrev cR := @Tryz.underlying31
abbrev jh := @Tryz.underlying64
abbrev kK := @Tryz.underlying3
abbrev kJ := @Tryz.underlying26
abbrev lT := @Tryz.underlying24
abbrev nO := @Tryz.underlying63
abbrev n9 := @Tryz.underlying120
abbrev pz := @Tryz.underlying27
abbrev rl := @Tryz.underlying101
abbrev rG := @Tryz.underlying34
abbrev nG := @Tryz.underlying22
abbrev oa := @Tryz.call265
abbrev pK := @Tryz.underlying62
abbrev uR := @Tryz.underlying9
abbrev rH := @Tryz.call172
abbrev tD := @Tryz.call242
abbrev tC := @Tryz.underlying100
abbrev tB := @Tryz.underlying98
abbrev uQ := @Tryz.call103
abbrev Kz := @Tryz.underlying4
abbrev wQ := @Tryz.underlying46
abbrev wP := @Tryz.call145
abbrev wO := @Tryz.call33
abbrev wN := @Tryz.underlying267
abbrev wM := @Tryz.underlying270
abbrev wL := @Tryz.call236
abbrev AV := @Tryz.call148
abbrev AU := @Tryz.func247
abbrev AT := @Tryz.func217
abbrev AS := @Tryz.call24
abbrev AR := @Tryz.call120
abbrev AQ := @Tryz.call199
abbrev Hl := @Tryz.func3
abbrev Fy := @Tryz.underlying30
abbrev CY := @Tryz.call90
abbrev CX := @Tryz.call169
abbrev CW := @Tryz.call218
abbrev CV := @Tryz.func62
abbrev CU := @Tryz.underlying142
abbrev CT := @Tryz.func146
abbrev CR := @Tryz.func44
abbrev CQ := @Tryz.func14
abbrev CP := @Tryz.call181
abbrev CO := @Tryz.call230
abbrev CN := @Tryz.call194
abbrev CM := @Tryz.call74
abbrev Fx := @Tryz.underlying59
abbrev Fw := @Tryz.underlying68
abbrev Fv := @Tryz.underlying23
abbrev Fu := @Tryz.underlying25
abbrev Ft := @Tryz.underlying28
abbrev Fs := @Tryz.underlying207
abbrev Fq := @Tryz.underlying212
abbrev Fp := @Tryz.call219
abbrev Fo := @Tryz.func215
abbrev Fm := @Tryz.func216
abbrev Fl := @Tryz.func214
abbrev Fk := @Tryz.call177
abbrev Fj := @Tryz.func45
abbrev Fi := @Tryz.underlying145
abbrev Fh := @Tryz.func10
abbrev Fg := @Tryz.func39
abbrev Ff := @Tryz.call10
abbrev Fe := @Tryz.call14
abbrev Fd := @Tryz.call187
abbrev Fc := @Tryz.func189
abbrev Hk := @Tryz.underlying61
abbrev K5 := @Tryz.underlying5
abbrev Hj := @Tryz.call176
abbrev Hi := @Tryz.call221
abbrev Hh := @Tryz.func241
abbrev Hg := @Tryz.func159
abbrev Hf := @Tryz.func109
abbrev He := @Tryz.func209
abbrev Hd := @Tryz.underlying203
abbrev Hc := @Tryz.func212
abbrev Hb := @Tryz.underlying159
abbrev tz_77 := @Tryz.func208
abbrev Jx := @Tryz.underlying215
abbrev Ha := @Tryz.func248
abbrev G0 := @Tryz.func160
abbrev GZ := @Tryz.call97
abbrev GY := @Tryz.func140
abbrev GX := @Tryz.underlying127
abbrev GW := @Tryz.func150
abbrev GV := @Tryz.call127
abbrev GU := @Tryz.call184
abbrev GT := @Tryz.call118
abbrev GS := @Tryz.call233
end Go.Sg
namespace Go.Sg
open Go.Proofs Go.Proofs.Tryz
set_option maxHeartbeats 2000000
def hOf (w:World):HF:=fun b=>w.heap[b]?
theorem pre_hOf (w:World):Pre (hOf w) [] w:=⟨fun _ _ h=>h,fun _ hp=>(List.not_mem_nil hp).elim,List.nodup_nil,fun _ hp=>(List.not_mem_nil hp).elim⟩
theorem Gb {w:World} {a:Addr} {v:Value} (h:w.cell? a=some v):a.spot=none∧∃ c T fz,w.heap[a.block]? = some (.cells c T fz)∧c[a.off]? = some v:=by
 unfold World.cell? at h
 split at h
 ·next c T fz e=>
  split at h
  ·cases h
  ·next hs=>exact ⟨by simpa using hs,c,T,fz,e,h⟩
 ·cases h
theorem DJ {α β : Type} {f:α→Option β}:∀ {l:List α} {r:List β},l.mapM f=some r→l.length=r.length∧∀ (j:Nat) (x:α),l[j]? = some x→f x=r[j]?
 | [],r,h=>by simp at h;subst h;exact ⟨rfl,fun j x hj=>by simp at hj⟩
 | a::l,r,h=>by
  rw [List.mapM_cons] at h
  simp only [Option.bind_eq_bind,Option.bind_eq_some_iff,Option.pure_def,Option.some.injEq] at h
  obtain ⟨b,hb,r',hr,rfl⟩:=h
  obtain ⟨h1,h2⟩:=DJ hr
  refine ⟨by simp [h1],fun j x hj=>?_⟩
  cases j with
  | zero=>simp at hj;subst hj;simpa using hb
  | succ j=>simpa using h2 j x (by simpa using hj)
theorem IK {w:World} {base n:Nat} {a:Addr} {cs:List Value} (hn:0 < n) (h:w.cells? base a n=some cs):At (hOf w) a cs∧cs.length=n:=by
 unfold World.cells? at h
 split at h
 ·obtain ⟨h1,h2⟩:=DJ h
  rw [List.length_range] at h1
  have hc:∀ j v,cs[j]? = some v→w.cell? (a.add j)=some v:=fun j v hv=>by
   have hj:=(List.getElem?_eq_some_iff.1 hv).1
   rw [h2 j j (List.getElem?_range (by omega))];exact hv
  obtain ⟨v,hv⟩:∃ v,cs[0]? = some v:=⟨cs[0],List.getElem?_eq_getElem (by omega)⟩
  obtain ⟨s1,c,T,fz,s2,s3⟩:=Gb (hc 0 v hv)
  have hsp:a.spot=none:=by simpa [Addr.add] using s1
  have hbl:∀ j,(a.add j).block=a.block∧(a.add j).off=a.off+j:=fun j=>by
   unfold Addr.add
   split
   ·next e=>subst e;exact ⟨rfl,rfl⟩
   ·exact ⟨rfl,rfl⟩
  refine ⟨⟨c,T,fz,?_,hsp,fun j u hu=>?_⟩,h1.symm⟩
  ·rw [(hbl 0).1] at s2;exact s2
  ·obtain ⟨_,c',T',fz',t2,t3⟩:=Gb (hc j u hu)
   rw [(hbl j).1] at t2
   rw [(hbl 0).1,t2] at s2
   cases s2
   rw [(hbl j).2] at t3;exact t3
 ·cases h
def szL {α : Type} (f:α→Nat):List α→Nat
 | []=>0
 | x::xs=>f x+szL f xs
theorem yl {α : Type} (f:α→Nat):∀ (l r:List α),szL f (l++r)=szL f l+szL f r
 | [],r=>by simp [szL]
 | x::l,r=>by simp [szL,yl f l r,Nat.add_assoc]
theorem szL_len {α : Type} {f:α→Nat} (hf:∀ x,1≤f x):∀ (l:List α),l.length≤szL f l
 | []=>Nat.le_refl _
 | x::l=>by have:=szL_len hf l;have:=hf x;simp [szL];omega
theorem BW {α : Type} {f:α→Nat} {x:α}:∀ {l:List α},x∈l→f x≤szL f l
 | y::l,h=>by
  rcases List.mem_cons.1 h with rfl | h
  ·simp [szL]
  ·have:=BW (f:=f) h;simp [szL];omega
theorem FF:∀ (l:List Expr),szL Expr.dep l=Expr.depL l
 | []=>rfl
 | y::l=>by simp [szL,Expr.depL,FF l]
open YtngiefchigcphaaGreatDoor.Rows in
theorem bulk_one {H:Type} (d:DataW H):1≤uptoBulk d:=by
 cases d with
 | lit l=>cases l <;> simp [uptoBulk]
 | nil=>simp [uptoBulk]
 | ptr d=>simp [uptoBulk]
 | slice elems spare=>simp [uptoBulk]
 | agg parts=>simp [uptoBulk]
 | iface t d=>simp [uptoBulk]
 | map entries=>simp [uptoBulk]
 | held h=>simp [uptoBulk]
open YtngiefchigcphaaGreatDoor.Rows in
theorem Ex {H:Type} (l r:List (DataW H)):uptoBulkAll (l++r)=uptoBulkAll l+uptoBulkAll r:=by
 induction l with
 | nil=>simp [uptoBulkAll]
 | cons x l ih=>simp only [List.cons_append,uptoBulkAll,ih];omega
section opn
open YtngiefchigcphaaGreatDoor.Rows
variable {H:Type} {enc:TypeId×Value→H} {P:Program} {w:World} {base:Nat} {sp:Nat→Bool} {held:Bool}
def Opn (enc:TypeId×Value→H) (P:Program) (w:World) (base:Nat) (sp:Nat→Bool) (held:Bool) {α : Type} (T:TypeId) (R:Rp α) (sz:α→Nat) (fuel:Nat):Prop:=
 ∀ cs d ps,DataW.trod enc P w base sp held fuel T cs=some (d,ps)→∃ x,R.rep (hOf w) cs x∧sz x≤uptoBulk d
theorem opn_slice {α : Type} {R:Rp α} {sz:α→Nat} {T E:TypeId} {fuel:Nat} (ht:P.underlying T=some (.slice E)) (hc:P.cellsOf E=R.sz) (hp:0 < R.sz) (he:∀ n,fuel=n+1→Opn enc P w base sp held E R sz n) {cs:List Value} {d:DataW H} {ps:List MemPlace}
  (h:DataW.trod enc P w base sp held fuel T cs=some (d,ps)):∃ b c xs,cs=[.slice b (List.length xs) c]∧SlC R (hOf w) b c xs∧szL sz xs+1≤uptoBulk d:=by
 rcases DataW.trod_slice ht h with ⟨rfl,e⟩ | ⟨a,len,cap,elems,rest,n,hn,rfl,hx,h1,h2,h3,h4,h5,_,_⟩
 ·cases e
  exact ⟨none,0,[],rfl,SlC.nil,by simp [szL,uptoBulk]⟩
 ·cases hx
  have key:∀ k,k≤len→∃ xs:List α,xs.length=k∧(∀ i x,xs[i]? = some x→∃ cs',At (hOf w) (a.add (i * R.sz)) cs'∧cs'.length=R.sz∧R.rep (hOf w) cs' x)∧szL sz xs≤uptoBulkAll ((elems.take k).map (·.1)):=by
   intro k
   induction k with
   | zero=>exact fun _=>⟨[],rfl,fun i x hx=>by simp at hx,by simp [szL]⟩
   | succ k ih=>
    intro hk
    obtain ⟨xs,e1,e2,e3⟩:=ih (by omega)
    have hkl:k < elems.length:=by omega
    have c0:=h5 k (by omega)
    rw [List.getElem?_eq_getElem hkl] at c0
    obtain ⟨cs',c1,c2⟩:=Option.bind_eq_some_iff.1 c0
    rw [hc] at c1
    obtain ⟨x,x1,x2⟩:=he n hn _ _ _ c2
    obtain ⟨k1,k2⟩:=IK hp c1
    refine ⟨xs++[x],by simp [e1],fun i y hy=>?_,?_⟩
    ·rcases Nat.lt_or_ge i xs.length with hi | hi
     ·rw [List.getElem?_append_left hi] at hy;exact e2 i y hy
     ·rw [List.getElem?_append_right hi] at hy
      have hi2:i=k:=by
       have:=(List.getElem?_eq_some_iff.1 hy).1
       simp at this;omega
      subst hi2
      rw [show i - xs.length=0 from by omega] at hy
      simp at hy;subst hy
      exact ⟨cs',k1,k2,x1⟩
    ·rw [yl,List.take_add_one,List.map_append,Ex,List.getElem?_eq_getElem hkl]
     simp only [szL,Option.toList_some,List.map_cons,List.map_nil,uptoBulkAll]
     have x3:sz x≤uptoBulk (elems[k]).1:=x2
     omega
  obtain ⟨xs,e1,e2,e3⟩:=key len (Nat.le_refl _)
  refine ⟨some a,cap,xs,by rw [e1],⟨⟨?_,fun i x hx=>?_⟩,by omega⟩,?_⟩
  ·have:maxLen≤9223372036854775807:=by decide
   omega
  ·obtain ⟨cs',k1,k2,k3⟩:=e2 i x hx
   exact ⟨a,cs',rfl,k1,k2,k3⟩
  ·rw [List.take_of_length_le (by omega)] at e3
   simp only [uptoBulk]
   omega
theorem opn_int {T:TypeId} (ht:P.underlying T=some (.int .i64)) (n:Nat):Opn enc P w base sp held T Rp.int (fun _=>1) n:=by
 intro cs d ps h
 refine (?_:∃ x,Rp.int.rep (hOf w) cs x).imp fun _ h=>⟨h,bulk_one d⟩
 cases n with
 | zero=>simp [DataW.trod] at h
 | succ n=>
  unfold DataW.trod at h
  rw [ht] at h
  split at h <;> simp_all
  next k k' z e=>
   obtain ⟨⟨h1,_⟩,h2,_⟩:=h
   subst h1
   exact ⟨z,by first | rfl | (subst e;rfl) | (cases e;rfl)⟩
theorem Kb {T:TypeId} (ht:P.underlying T=some (.int .u8)) (n:Nat):Opn enc P w base sp held T ⟨1,fun _ cs (x:Int)=>cs=[.int .u8 x]⟩ (fun _=>1) n:=by
 intro cs d ps h
 refine (?_:∃ x:Int,cs=[.int .u8 x]).imp fun _ h=>⟨h,bulk_one d⟩
 cases n with
 | zero=>simp [DataW.trod] at h
 | succ n=>
  unfold DataW.trod at h
  rw [ht] at h
  split at h <;> simp_all
theorem pR {T:TypeId} (ht:P.underlying T=some .bool) (n:Nat):Opn enc P w base sp held T Rp.bool (fun _=>1) n:=by
 intro cs d ps h
 obtain ⟨b,rfl,_⟩:=DataW.trod_bool ht h
 exact ⟨b,rfl,bulk_one d⟩
theorem vj {T:TypeId} (ht:P.underlying T=some .string) (n:Nat):Opn enc P w base sp held T Rp.str (fun _=>1) n:=by
 intro cs d ps h
 refine (?_:∃ x,Rp.str.rep (hOf w) cs x).imp fun _ h=>⟨h,bulk_one d⟩
 cases n with
 | zero=>simp [DataW.trod] at h
 | succ n=>
  unfold DataW.trod at h
  rw [ht] at h
  split at h <;> simp_all
  all_goals exact ⟨_,rfl⟩
def TrF (enc:TypeId×Value→H) (P:Program) (w:World) (base:Nat) (sp:Nat→Bool) (held:Bool) (fuel:Nat):List TypeId→List Value→List (DataW H)→Prop
 | [],cs,ds=>cs=[]∧ds=[]
 | t::ts,cs,ds=>∃ c cs' d ds' p,cs=c++cs'∧ds=d::ds'∧DataW.trod enc P w base sp held fuel t c=some (d,p)∧TrF enc P w base sp held fuel ts cs' ds'
def contig (P:Program):List Field→Nat→Option Nat
 | [],o=>some o
 | f::fs,o=>if f.offset=o then contig P fs (o+P.cellsOf f.type) else none
theorem Ho {n:Nat} {cs:List Value}:∀ (fs:List Field) (xs:List (DataW H×List MemPlace)) (o:Nat),xs.length=fs.length→contig P fs o=some cs.length →
  (∀ (i:Nat) (f:Field),fs[i]? = some f→DataW.trod enc P w base sp held n f.type ((cs.drop f.offset).take (P.cellsOf f.type))=xs[i]?)→TrF enc P w base sp held n (fs.map (·.type)) (cs.drop o) (xs.map (·.1))
 | [],xs,o,hl,hc,_=>by
  simp only [contig,Option.some.injEq] at hc
  subst hc
  rw [List.length_nil,List.length_eq_zero_iff] at hl
  subst hl
  exact ⟨by simp,rfl⟩
 | f::fs,[],o,hl,hc,hx=>by simp at hl
 | f::fs,x::xs,o,hl,hc,hx=>by
  unfold contig at hc
  split at hc
  ·next ho=>
   have h0:=hx 0 f rfl
   rw [ho] at h0
   simp only [List.getElem?_cons_zero] at h0
   refine ⟨(cs.drop o).take (P.cellsOf f.type),cs.drop (o+P.cellsOf f.type),x.1,xs.map (·.1),x.2,?_,rfl,h0,Ho fs xs _ (by simpa using hl) hc (fun i g hg=>by simpa using hx (i+1) g (by simpa using hg))⟩
   rw [← List.drop_drop,List.take_append_drop]
  ·cases hc
theorem kd {T:TypeId} {fs:Array Field} {fuel:Nat} {cs:List Value} {d:DataW H} {ps:List MemPlace} (ht:P.underlying T=some (.struct fs)) (hk:contig P fs.toList 0=some (P.cellsOf T)) (h:DataW.trod enc P w base sp held fuel T cs=some (d,ps)):
  ∃ n ds,fuel=n+1∧d=.agg ds∧TrF enc P w base sp held n (fs.toList.map (·.type)) cs ds:=by
 obtain ⟨xs,n,hn,hx,hl,hlen,hf⟩:=DataW.trod_struct ht h
 cases hx
 refine ⟨n,_,hn,rfl,?_⟩
 have:=Ho (enc:=enc) (w:=w) (base:=base) (sp:=sp) (held:=held) (n:=n) (cs:=cs) fs.toList xs 0 (by simpa using hlen) (by rw [hk,hl]) (fun i f hi=>hf i f (by simpa using hi))
 simpa using this
theorem Gy {T E:TypeId} {m:Nat} (ht:P.underlying T=some (.array m E)) (hE:P.underlying E=some (.int .u8)) (hc:P.cellsOf E=1) (hcT:P.cellsOf T=m) {n:Nat} {cs:List Value} {d:DataW H} {ps:List MemPlace}
  (h:DataW.trod enc P w base sp held n T cs=some (d,ps)):∃ f:Nat→Int,cs=(List.range m).map fun i=>Value.int .u8 (f i):=by
 obtain ⟨xs,k,hk,hx,hl,hlen,hf⟩:=DataW.trod_array ht h
 rw [hcT] at hl
 have h1:∀ i,∃ z:Int,i < m→cs[i]? = some (.int .u8 z):=by
  intro i
  rcases Nat.lt_or_ge i m with hi | hi
  ·have h0:=hf i hi
   rw [hc,Nat.mul_one,List.getElem?_eq_getElem (by omega)] at h0
   obtain ⟨z,hz,_⟩:=Kb (enc:=enc) (w:=w) (base:=base) (sp:=sp) (held:=held) hE k _ _ _ h0
   refine ⟨z,fun _=>?_⟩
   have hz':(cs.drop i).take 1=[.int .u8 z]:=hz
   have:=congrArg (·[0]?) hz'
   simpa using this
  ·exact ⟨0,fun h=>by omega⟩
 obtain ⟨f,hf'⟩:=Classical.axiomOfChoice h1
 refine ⟨f,List.ext_getElem? fun i=>?_⟩
 rcases Nat.lt_or_ge i m with hi | hi
 ·rw [hf' i hi];simp [hi]
 ·rw [List.getElem?_eq_none (by omega)];simp [hi]
end opn
section openings
variable {H:Type} {enc:TypeId×Value→H} {w:World} {base:Nat} {sp:Nat→Bool} {held:Bool}
theorem Dy (n:Nat):Opn enc prog w base sp held 59 Appoint.rp (fun _=>1) n:=by
 intro cs d ps h
 obtain ⟨m,ds,rfl,rfl,c0,_,d0,_,p0,rfl,rfl,h0,c1,_,d1,_,p1,rfl,rfl,h1,c2,_,d2,_,p2,rfl,rfl,h2,c3,_,d3,_,p3,rfl,rfl,h3,c4,_,d4,_,p4,rfl,rfl,h4,c5,_,d5,_,p5,rfl,rfl,h5,c6,_,d6,_,p6,rfl,rfl,h6,rfl,rfl⟩:=kd (fs:=_) Fx (by kernel_rfl) h
 obtain ⟨x0,rfl,_⟩:=(opn_int (by kernel_rfl)) m _ _ _ h0
 obtain ⟨x1,rfl,_⟩:=(opn_int (by kernel_rfl)) m _ _ _ h1
 obtain ⟨x2,rfl,_⟩:=(opn_int (by kernel_rfl)) m _ _ _ h2
 obtain ⟨x3,rfl,_⟩:=(opn_int (by kernel_rfl)) m _ _ _ h3
 obtain ⟨x4,rfl,_⟩:=(opn_int (by kernel_rfl)) m _ _ _ h4
 obtain ⟨x5,rfl,_⟩:=(opn_int (by kernel_rfl)) m _ _ _ h5
 obtain ⟨x6,rfl,_⟩:=(pR (by kernel_rfl)) m _ _ _ h6
 exact ⟨⟨x0,x1,x2,x3,x4,x5,x6⟩,rfl,bulk_one _⟩
theorem ES (n:Nat):Opn enc prog w base sp held 169 Deputy.rp (fun _=>1) n:=by
 intro cs d ps h
 obtain ⟨m,ds,rfl,rfl,c0,_,d0,_,p0,rfl,rfl,h0,c1,_,d1,_,p1,rfl,rfl,h1,c2,_,d2,_,p2,rfl,rfl,h2,c3,_,d3,_,p3,rfl,rfl,h3,c4,_,d4,_,p4,rfl,rfl,h4,c5,_,d5,_,p5,rfl,rfl,h5,c6,_,d6,_,p6,rfl,rfl,h6,c7,_,d7,_,p7,rfl,rfl,h7,c8,_,d8,_,p8,rfl,rfl,h8,c9,_,d9,_,p9,rfl,rfl,h9,rfl,rfl⟩:=kd (fs:=_) underlying169 (by kernel_rfl) h
 obtain ⟨x0,rfl,_⟩:=(opn_int (by kernel_rfl)) m _ _ _ h0
 obtain ⟨x1,rfl,_⟩:=(opn_int (by kernel_rfl)) m _ _ _ h1
 obtain ⟨x2,rfl,_⟩:=(opn_int (by kernel_rfl)) m _ _ _ h2
 obtain ⟨x3,rfl,_⟩:=(opn_int (by kernel_rfl)) m _ _ _ h3
 obtain ⟨x4,rfl,_⟩:=(opn_int (by kernel_rfl)) m _ _ _ h4
 obtain ⟨x5,rfl,_⟩:=(opn_int (by kernel_rfl)) m _ _ _ h5
 obtain ⟨x6,rfl,_⟩:=(opn_int (by kernel_rfl)) m _ _ _ h6
 obtain ⟨x7,rfl,_⟩:=(opn_int (by kernel_rfl)) m _ _ _ h7
 obtain ⟨x8,rfl,_⟩:=(opn_int (by kernel_rfl)) m _ _ _ h8
 obtain ⟨x9,rfl,_⟩:=(pR (by kernel_rfl)) m _ _ _ h9
 exact ⟨⟨x0,x1,x2,x3,x4,x5,x6,x7,x8,x9⟩,rfl,bulk_one _⟩
theorem Cj (n:Nat):Opn enc prog w base sp held 61 Interest.rp (fun _=>1) n:=by
 intro cs d ps h
 obtain ⟨m,ds,rfl,rfl,c0,_,d0,_,p0,rfl,rfl,h0,c1,_,d1,_,p1,rfl,rfl,h1,c2,_,d2,_,p2,rfl,rfl,h2,c3,_,d3,_,p3,rfl,rfl,h3,c4,_,d4,_,p4,rfl,rfl,h4,c5,_,d5,_,p5,rfl,rfl,h5,c6,_,d6,_,p6,rfl,rfl,h6,rfl,rfl⟩:=kd (fs:=_) Hk (by kernel_rfl) h
 obtain ⟨x0,rfl,_⟩:=(opn_int (by kernel_rfl)) m _ _ _ h0
 obtain ⟨x1,rfl,_⟩:=(opn_int (by kernel_rfl)) m _ _ _ h1
 obtain ⟨x2,rfl,_⟩:=(opn_int (by kernel_rfl)) m _ _ _ h2
 obtain ⟨x3,rfl,_⟩:=(opn_int (by kernel_rfl)) m _ _ _ h3
 obtain ⟨x4,rfl,_⟩:=(opn_int (by kernel_rfl)) m _ _ _ h4
 obtain ⟨x5,rfl,_⟩:=(pR (by kernel_rfl)) m _ _ _ h5
 obtain ⟨x6,rfl,_⟩:=(pR (by kernel_rfl)) m _ _ _ h6
 exact ⟨⟨x0,x1,x2,x3,x4,x5,x6⟩,rfl,bulk_one _⟩
theorem ET (n:Nat):Opn enc prog w base sp held 173 Budget.rp (fun _=>1) n:=by
 intro cs d ps h
 obtain ⟨m,ds,rfl,rfl,c0,_,d0,_,p0,rfl,rfl,h0,c1,_,d1,_,p1,rfl,rfl,h1,c2,_,d2,_,p2,rfl,rfl,h2,c3,_,d3,_,p3,rfl,rfl,h3,c4,_,d4,_,p4,rfl,rfl,h4,c5,_,d5,_,p5,rfl,rfl,h5,c6,_,d6,_,p6,rfl,rfl,h6,c7,_,d7,_,p7,rfl,rfl,h7,rfl,rfl⟩:=kd (fs:=_) underlying173 (by kernel_rfl) h
 obtain ⟨x0,rfl,_⟩:=(opn_int (by kernel_rfl)) m _ _ _ h0
 obtain ⟨x1,rfl,_⟩:=(opn_int (by kernel_rfl)) m _ _ _ h1
 obtain ⟨x2,rfl,_⟩:=(opn_int (by kernel_rfl)) m _ _ _ h2
 obtain ⟨x3,rfl,_⟩:=(opn_int (by kernel_rfl)) m _ _ _ h3
 obtain ⟨x4,rfl,_⟩:=(opn_int (by kernel_rfl)) m _ _ _ h4
 obtain ⟨x5,rfl,_⟩:=(opn_int (by kernel_rfl)) m _ _ _ h5
 obtain ⟨x6,rfl,_⟩:=(opn_int (by kernel_rfl)) m _ _ _ h6
 obtain ⟨x7,rfl,_⟩:=(pR (by kernel_rfl)) m _ _ _ h7
 exact ⟨⟨x0,x1,x2,x3,x4,x5,x6,x7⟩,rfl,bulk_one _⟩
abbrev Expr.hold (x:Expr):Nat:=x.dep
theorem Dx (n:Nat):Opn enc prog w base sp held 66 Expr.rp Expr.hold n:=by
 induction n using Nat.strongRecOn with
 | _ n ih=>
 intro cs d ps h
 obtain ⟨m,ds,rfl,rfl,c0,_,d0,_,p0,rfl,rfl,h0,c1,_,d1,_,p1,rfl,rfl,h1,c2,_,d2,_,p2,rfl,rfl,h2,c3,_,d3,_,p3,rfl,rfl,h3,c4,_,d4,_,p4,rfl,rfl,h4,rfl,rfl⟩:=kd (fs:=_) underlying66 (by kernel_rfl) h
 obtain ⟨x0,rfl,_⟩:=(opn_int (by kernel_rfl)) m _ _ _ h0
 obtain ⟨x1,rfl,_⟩:=(opn_int (by kernel_rfl)) m _ _ _ h1
 obtain ⟨x2,rfl,_⟩:=(opn_int (by kernel_rfl)) m _ _ _ h2
 obtain ⟨x3,rfl,_⟩:=(vj (by kernel_rfl)) m _ _ _ h3
 obtain ⟨b4,k4,x4,rfl,o4,q4⟩:=opn_slice jh (by kernel_rfl) (by decide) (fun k hk=>ih k (by omega)) h4
 refine ⟨Expr.mk x0 x1 x2 x3 x4,⟨⟨b4,k4⟩,rfl,Expr.ok.of o4⟩,?_⟩
 rw [FF] at q4
 simp only [Expr.hold,Expr.dep,YtngiefchigcphaaGreatDoor.Rows.uptoBulk,YtngiefchigcphaaGreatDoor.Rows.uptoBulkAll] at *
 omega
def Rule.hold (x:Rule):Nat:=Expr.hold x.Expr+1
theorem HU (n:Nat):Opn enc prog w base sp held 107 Rule.rp Rule.hold n:=by
 intro cs d ps h
 obtain ⟨m,ds,rfl,rfl,c0,_,d0,_,p0,rfl,rfl,h0,c1,_,d1,_,p1,rfl,rfl,h1,c2,_,d2,_,p2,rfl,rfl,h2,c3,_,d3,_,p3,rfl,rfl,h3,rfl,rfl⟩:=kd (fs:=_) underlying107 (by kernel_rfl) h
 obtain ⟨x0,rfl,_⟩:=(vj (by kernel_rfl)) m _ _ _ h0
 obtain ⟨x1,rfl,_⟩:=(opn_int (by kernel_rfl)) m _ _ _ h1
 obtain ⟨x2,rfl,_⟩:=(opn_int (by kernel_rfl)) m _ _ _ h2
 obtain ⟨x3,⟨r3,rfl,o3⟩,q3⟩:=Dx m _ _ _ h3
 refine ⟨⟨x0,x1,x2,x3⟩,⟨⟨r3⟩,rfl,⟨o3⟩⟩,?_⟩
 simp only [Rule.hold,YtngiefchigcphaaGreatDoor.Rows.uptoBulk,YtngiefchigcphaaGreatDoor.Rows.uptoBulkAll]
 omega
def Policy.hold (x:Policy):Nat:=szL (fun _=>1) x.Kinds+szL (fun _=>1) x.Offices+szL Rule.hold x.Rules+Expr.hold x.Change+1
theorem ER (n:Nat):Opn enc prog w base sp held 68 Policy.rp Policy.hold n:=by
 intro cs d ps h
 obtain ⟨m,ds,rfl,rfl,c0,_,d0,_,p0,rfl,rfl,h0,c1,_,d1,_,p1,rfl,rfl,h1,c2,_,d2,_,p2,rfl,rfl,h2,c3,_,d3,_,p3,rfl,rfl,h3,c4,_,d4,_,p4,rfl,rfl,h4,c5,_,d5,_,p5,rfl,rfl,h5,rfl,rfl⟩:=kd (fs:=_) Fw (by kernel_rfl) h
 obtain ⟨x0,rfl,_⟩:=(vj (by kernel_rfl)) m _ _ _ h0
 obtain ⟨b1,k1,x1,rfl,o1,q1⟩:=opn_slice pK (by kernel_rfl) (by decide) (fun k _=>(vj (by kernel_rfl)) k) h1
 obtain ⟨b2,k2,x2,rfl,o2,q2⟩:=opn_slice pK (by kernel_rfl) (by decide) (fun k _=>(vj (by kernel_rfl)) k) h2
 obtain ⟨b3,k3,x3,rfl,o3,q3⟩:=opn_slice nO (by kernel_rfl) (by decide) (fun k _=>HU k) h3
 obtain ⟨x4,⟨r4,rfl,o4⟩,q4⟩:=Dx m _ _ _ h4
 obtain ⟨x5,rfl,_⟩:=(opn_int (by kernel_rfl)) m _ _ _ h5
 refine ⟨⟨x0,x1,x2,x3,x4,x5⟩,⟨⟨b1,k1,b2,k2,b3,k3,r4⟩,rfl,⟨o1,o2,o3,o4⟩⟩,?_⟩
 simp only [Policy.hold,YtngiefchigcphaaGreatDoor.Rows.uptoBulk,YtngiefchigcphaaGreatDoor.Rows.uptoBulkAll]
 omega
def Version.hold (x:Version):Nat:=Policy.hold x.Policy+1
theorem Dw (n:Nat):Opn enc prog w base sp held 70 Version.rp Version.hold n:=by
 intro cs d ps h
 obtain ⟨m,ds,rfl,rfl,c0,_,d0,_,p0,rfl,rfl,h0,c1,_,d1,_,p1,rfl,rfl,h1,c2,_,d2,_,p2,rfl,rfl,h2,c3,_,d3,_,p3,rfl,rfl,h3,rfl,rfl⟩:=kd (fs:=_) underlying70 (by kernel_rfl) h
 obtain ⟨x0,rfl,_⟩:=(opn_int (by kernel_rfl)) m _ _ _ h0
 obtain ⟨x1,rfl,_⟩:=(opn_int (by kernel_rfl)) m _ _ _ h1
 obtain ⟨x2,rfl,_⟩:=(opn_int (by kernel_rfl)) m _ _ _ h2
 obtain ⟨x3,⟨r3,rfl,o3⟩,q3⟩:=ER m _ _ _ h3
 refine ⟨⟨x0,x1,x2,x3⟩,⟨⟨r3⟩,rfl,⟨o3⟩⟩,?_⟩
 simp only [Version.hold,YtngiefchigcphaaGreatDoor.Rows.uptoBulk,YtngiefchigcphaaGreatDoor.Rows.uptoBulkAll]
 omega
def Document.hold (x:Document):Nat:=szL (fun _=>1) x.Parties+szL (fun _=>1) x.Revokes+szL (fun _=>1) x.Needs+1
theorem Ck (n:Nat):Opn enc prog w base sp held 52 Document.rp Document.hold n:=by
 intro cs d ps h
 obtain ⟨m,ds,rfl,rfl,c0,_,d0,_,p0,rfl,rfl,h0,c1,_,d1,_,p1,rfl,rfl,h1,c2,_,d2,_,p2,rfl,rfl,h2,c3,_,d3,_,p3,rfl,rfl,h3,c4,_,d4,_,p4,rfl,rfl,h4,c5,_,d5,_,p5,rfl,rfl,h5,c6,_,d6,_,p6,rfl,rfl,h6,c7,_,d7,_,p7,rfl,rfl,h7,c8,_,d8,_,p8,rfl,rfl,h8,c9,_,d9,_,p9,rfl,rfl,h9,rfl,rfl⟩:=kd (fs:=_) underlying52 (by kernel_rfl) h
 obtain ⟨x0,rfl,_⟩:=(opn_int (by kernel_rfl)) m _ _ _ h0
 obtain ⟨x1,rfl,_⟩:=(opn_int (by kernel_rfl)) m _ _ _ h1
 obtain ⟨x2,rfl,_⟩:=(opn_int (by kernel_rfl)) m _ _ _ h2
 obtain ⟨x3,rfl,_⟩:=(opn_int (by kernel_rfl)) m _ _ _ h3
 obtain ⟨x4,rfl,_⟩:=(opn_int (by kernel_rfl)) m _ _ _ h4
 obtain ⟨x5,rfl,_⟩:=(opn_int (by kernel_rfl)) m _ _ _ h5
 obtain ⟨b6,k6,x6,rfl,o6,q6⟩:=opn_slice cR (by kernel_rfl) (by decide) (fun k _=>(opn_int (by kernel_rfl)) k) h6
 obtain ⟨b7,k7,x7,rfl,o7,q7⟩:=opn_slice cR (by kernel_rfl) (by decide) (fun k _=>(opn_int (by kernel_rfl)) k) h7
 obtain ⟨b8,k8,x8,rfl,o8,q8⟩:=opn_slice cR (by kernel_rfl) (by decide) (fun k _=>(opn_int (by kernel_rfl)) k) h8
 obtain ⟨x9,rfl⟩:=Gy underlying50 K5 (by kernel_rfl) (by kernel_rfl) h9
 refine ⟨⟨x0,x1,x2,x3,x4,x5,x6,x7,x8,x9⟩,⟨⟨b6,k6,b7,k7,b8,k8⟩,rfl,⟨o6,o7,o8⟩⟩,?_⟩
 simp only [Document.hold,YtngiefchigcphaaGreatDoor.Rows.uptoBulk,YtngiefchigcphaaGreatDoor.Rows.uptoBulkAll]
 omega
theorem Cl (n:Nat):Opn enc prog w base sp held 181 Approval.rp (fun _=>1) n:=by
 intro cs d ps h
 obtain ⟨m,ds,rfl,rfl,c0,_,d0,_,p0,rfl,rfl,h0,c1,_,d1,_,p1,rfl,rfl,h1,c2,_,d2,_,p2,rfl,rfl,h2,c3,_,d3,_,p3,rfl,rfl,h3,c4,_,d4,_,p4,rfl,rfl,h4,c5,_,d5,_,p5,rfl,rfl,h5,c6,_,d6,_,p6,rfl,rfl,h6,c7,_,d7,_,p7,rfl,rfl,h7,rfl,rfl⟩:=kd (fs:=_) underlying181 (by kernel_rfl) h
 obtain ⟨x0,rfl,_⟩:=(opn_int (by kernel_rfl)) m _ _ _ h0
 obtain ⟨x1,rfl,_⟩:=(opn_int (by kernel_rfl)) m _ _ _ h1
 obtain ⟨x2,rfl,_⟩:=(opn_int (by kernel_rfl)) m _ _ _ h2
 obtain ⟨x3,rfl,_⟩:=(opn_int (by kernel_rfl)) m _ _ _ h3
 obtain ⟨x4,rfl,_⟩:=(opn_int (by kernel_rfl)) m _ _ _ h4
 obtain ⟨x5,rfl,_⟩:=(opn_int (by kernel_rfl)) m _ _ _ h5
 obtain ⟨x6,rfl,_⟩:=(opn_int (by kernel_rfl)) m _ _ _ h6
 obtain ⟨x7,rfl,_⟩:=(pR (by kernel_rfl)) m _ _ _ h7
 exact ⟨⟨x0,x1,x2,x3,x4,x5,x6,x7⟩,rfl,bulk_one _⟩
def Register.hold (x:Register):Nat:=szL (fun _=>1) x.Appoints+szL (fun _=>1) x.Deputies+szL (fun _=>1) x.Interests+szL (fun _=>1) x.Budgets+szL Version.hold x.Versions+szL Document.hold x.Docs+szL (fun _=>1) x.Approvals+1
theorem opn_Register (n:Nat):Opn enc prog w base sp held 30 Register.rp Register.hold n:=by
 intro cs d ps h
 obtain ⟨m,ds,rfl,rfl,c0,_,d0,_,p0,rfl,rfl,h0,c1,_,d1,_,p1,rfl,rfl,h1,c2,_,d2,_,p2,rfl,rfl,h2,c3,_,d3,_,p3,rfl,rfl,h3,c4,_,d4,_,p4,rfl,rfl,h4,c5,_,d5,_,p5,rfl,rfl,h5,c6,_,d6,_,p6,rfl,rfl,h6,rfl,rfl⟩:=kd (fs:=_) Fy (by kernel_rfl) h
 obtain ⟨b0,k0,x0,rfl,o0,q0⟩:=opn_slice nG (by kernel_rfl) (by decide) (fun k _=>Dy k) h0
 obtain ⟨b1,k1,x1,rfl,o1,q1⟩:=opn_slice Fv (by kernel_rfl) (by decide) (fun k _=>ES k) h1
 obtain ⟨b2,k2,x2,rfl,o2,q2⟩:=opn_slice lT (by kernel_rfl) (by decide) (fun k _=>Cj k) h2
 obtain ⟨b3,k3,x3,rfl,o3,q3⟩:=opn_slice Fu (by kernel_rfl) (by decide) (fun k _=>ET k) h3
 obtain ⟨b4,k4,x4,rfl,o4,q4⟩:=opn_slice kJ (by kernel_rfl) (by decide) (fun k _=>Dw k) h4
 obtain ⟨b5,k5,x5,rfl,o5,q5⟩:=opn_slice pz (by kernel_rfl) (by decide) (fun k _=>Ck k) h5
 obtain ⟨b6,k6,x6,rfl,o6,q6⟩:=opn_slice Ft (by kernel_rfl) (by decide) (fun k _=>Cl k) h6
 refine ⟨⟨x0,x1,x2,x3,x4,x5,x6⟩,⟨⟨b0,k0,b1,k1,b2,k2,b3,k3,b4,k4,b5,k5,b6,k6⟩,rfl,⟨o0,o1,o2,o3,o4,o5,o6⟩⟩,?_⟩
 simp only [Register.hold,YtngiefchigcphaaGreatDoor.Rows.uptoBulk,YtngiefchigcphaaGreatDoor.Rows.uptoBulkAll]
 omega
end openings
theorem J1 {p:Policy} (h:Policy.hold p≤1048576):smP p:=by
 unfold Policy.hold Expr.hold at h
 have h1:=szL_len (f:=fun _:ByteArray=>1) (fun _=>Nat.le_refl _) p.Kinds
 have h2:=szL_len (f:=fun _:ByteArray=>1) (fun _=>Nat.le_refl _) p.Offices
 have h3:=szL_len (f:=Rule.hold) (fun x=>by unfold Rule.hold;omega) p.Rules
 refine ⟨by omega,fun r hr=>?_,by omega,by omega,by omega⟩
 have h4:=BW (f:=Rule.hold) hr
 unfold Rule.hold Expr.hold at h4
 have:szL (fun x=>Rule.hold x) p.Rules=szL Rule.hold p.Rules:=rfl
 unfold Rule.hold Expr.hold at this h
 omega
theorem J0 {l:List Version} (h:szL Version.hold l≤1048576):smV l:=by
 have h1:=szL_len (f:=Version.hold) (fun x=>by unfold Version.hold;omega) l
 refine ⟨by omega,fun v hv=>J1 ?_⟩
 have h2:=BW (f:=Version.hold) hv
 have h3:Policy.hold v.Policy≤Version.hold v:=by unfold Version.hold;omega
 omega
theorem smR_of {r:Register} (h:Register.hold r≤1048576):smR r:=by
 unfold Register.hold at h
 have h1:=szL_len (f:=fun _:Appoint=>1) (fun _=>Nat.le_refl _) r.Appoints
 have h2:=szL_len (f:=fun _:Deputy=>1) (fun _=>Nat.le_refl _) r.Deputies
 have h3:=szL_len (f:=fun _:Interest=>1) (fun _=>Nat.le_refl _) r.Interests
 have h4:=szL_len (f:=fun _:Budget=>1) (fun _=>Nat.le_refl _) r.Budgets
 have h5:=szL_len (f:=Document.hold) (fun x=>by unfold Document.hold;omega) r.Docs
 have h6:=szL_len (f:=fun _:Approval=>1) (fun _=>Nat.le_refl _) r.Approvals
 exact ⟨J0 (by omega),by omega,by omega,by omega,by omega,by omega,by omega⟩
end Go.Sg
namespace Go.Sg
def KN (P:Program) (f:FuncId) (X:Cx) (v:Value) (cs:List Frame) (Φ : Machine→Prop):Prop:=
 X.M=[]∧∀ fr w',RowKit.Below X.w0.heap.size X.w0 w'→fr.fn=f→fr.leaving P w' (.returned v)→To P Φ (lone fr cs w')
theorem Ew {P:Program} {f:FuncId} {fn:Func} {c:Code} {n:Nat} {args:List Value} {h:HF} {v:Value} {w:World} (hp:Pre h [] w)
  (hf:P.funcs[f]? = some fn) (hb:fn.body=some c) (hn:fn.ntmps=n) (hle:Nat.ble args.length n=true)
  (t:∀ X:Cx,X.M=([]:LH).map (·.1)→X.h0=h→TT P (bodyFrame f) n [.code c] (KN P f X v) (envArgs args) [] X h []):Calls P f args.toArray w fun e w'=>e=.returned v∧RowKit.Below w.heap.size w w':=by
 intro cs
 have hle:=Nat.le_of_ble_eq_true hle
 have henter:Frame.enter P f args.toArray .normal=(bodyFrame f).atR { tmps:=args.toArray++Array.replicate (n - args.length) undef,defers:=[] } [.code c]:=by
  simp [Frame.enter,Frame.atR,hf,hb,hn,bodyFrame]
 obtain ⟨m',s,w',fr,rfl,h1,h2,h3⟩:=t ⟨w,h,[]⟩ rfl rfl w (St.start hp) { tmps:=args.toArray++Array.replicate (n - args.length) undef,defers:=[] } cs
  (fun m=>∃ w' fr,m=lone fr cs w'∧RowKit.Below w.heap.size w w'∧fr.fn=f∧fr.leaving P w' (.returned v)) (by simp;omega) (oO _ _) rfl
  ⟨rfl,fun fr w' hb hfn hl=>.now ⟨w',fr,rfl,hb,hfn,hl⟩⟩
 refine ⟨.returned v,w',fr,⟨rfl,h1⟩,?_,h2,h3⟩
 rw [henter];exact s
section ending
variable {P:Program} {f:FuncId} {n:Nat} {k:List Item} {e:Env} {X:Cx} {h:HF} {L:LH} {fn:Func}
theorem yh {rs:List ResultVar} {v:Value} {hh:HF} (vs:List Value) (hf:P.funcs[f]? = some fn) (hr:fn.results=rs.toArray) (_:X.h0=hh) (hv:rj P e L rs vs) (hvv:retVal vs=v):
  TT P (bodyFrame f) n (.code .ret::k) (KN P f X v) e [] X h L:=by
 intro w hw a cs Φ hn he hds hF
 exact .step (stepR_ret rfl) (hF.2 _ w (hw.below hF.1) rfl ⟨rfl,hds,rfl,fn,hf,hvv ▸ qv hr hv a he w hw⟩)
end ending
end Go.Sg
