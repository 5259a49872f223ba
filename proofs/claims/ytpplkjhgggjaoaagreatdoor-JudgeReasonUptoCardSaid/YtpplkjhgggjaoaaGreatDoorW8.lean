import Derived.Test.YtpplkjhgggjaoaaGreatDoorW7
/- A part of the proof of JudgeReason. -/
set_option linter.unusedVariables false
set_option linter.unusedSimpArgs false
set_option maxRecDepth 100000
namespace Go.Sg
open Go.Proofs Go.Proofs.Tryz
set_option maxHeartbeats 2000000
theorem tr (h:HF) (l:List Interest) (e8:Option Addr) (eZ:Nat) (jR:Int) (known:Int) (hl:SlC Interest.rp h e8 eZ l):jN prog 113 [.slice e8 l.length eZ,I jR,I known] h (fun v h'=>∃ (rv0:Value),v=rv0∧Itr prog rv0 sF (cT l jR known) h'):=by
 refine sT func113 U ntmps113 U fun X hM hX hF=>?_
 have hs0:cT l jR known=cT l jR known:=rfl
 refine sr (cA (fun b1=>qO 4 U (aF (mr (fun b2=>aV zc282 (fun b3=>cJ 0 ty282 U U U U U U (qL 8 [2] U ?_)))))))
 let z1:Nat×Obj:=(b1,O [.slice e8 l.length eZ] 24)
 let z2:Nat×Obj:=(b3,O [.map (some b2)] 282)
 refine lp2 l (fun i w=>[(1,I jR),(2,I known),(3,Q b1),(7,Q b3),(14,.slice e8 l.length eZ),(15,I (l.length:Int)),(16,I (i:Int))]) (fun _=>h) (fun w=>[z2,(b2,w.2),z1]) (fun i w=>iL dS.enc (iH Interest.rp) h w.2 w.1∧w.1.length≤0+i) (fun s1 i w=>(cT.L1 jR known (cT.K1 l)) s1 w.1) ([],.map #[] 0) hl.1.1 hs0 ⟨(iL.nil (enc:=dS.enc) (V:=(iH Interest.rp)) (h:=h)),lc⟩ ?_ ?_
 ·rintro i1 ⟨bS,dR⟩ fA hs1 ⟨gd,BK⟩ e
  refine sr (aT 2 U hM (fun h1 hle1 hb1=>aT 0 U hM (fun h2 hle2 hb2=>aF (et U U (an (eI 0 U hM (fun h3 hle3 hb3=>?_)))))))
  have mc1:qt dS.enc (iH Interest.rp) h3 b2 bS:=⟨_,hb3,(gd.mono (iH.mono Interest.ao) (hle1.t hle2)).mono (iH.mono Interest.ao) hle3⟩
  have hs2:cT l jR known=(bT l bS):=hs1
  exact nretH [.func (.func 208) #[] #[Q b1,Q b3]] ⟨(.func (.func 208) #[] #[Q b1,Q b3]),congrArg (fun r:List Interest=>((.func (.func 208) #[] #[Q b1,Q b3]):Value)) hs2.symm,(by rw [hs2];exact (rU h3 l e8 eZ ⟨b1,0,none⟩ bS b2 ⟨b3,0,none⟩ (hl.mono Interest.ao ((hle1.t hle2).t hle3)) ((ct hb1).mono (hle2.t hle3)) mc1 ((ct hb2).mono hle3)))⟩
 rintro i1 ⟨bS,dR⟩ y1 rz1 hd1 dx aL eH hO hs3 ⟨gd,BK⟩ hx1 ag1 e
 refine sr (aw (v':=.bool true) U (cb dx) (qO 8 U (aF (fj (enc:=Interest.cells) ei sU ty97 hl.1 (nthZ aL) (ba aL) U U U (fun q2 A2=>dz ty97 A2 U U (aV zc97 (fun b5=>aS 0 ty97 U U U U U U (qL 9 [0] U (bY 5 [24,25,26,27,28,29] 24 29 (decide (known < y1.Known)) U (fun c1 hk1=>?_) (fun e=>?_))))))))))
 ·exact qL 5 [0] U (hk1 _ U)
 refine aD (ai hs3 U (fun c2 hs4=>?_) (fun c2 hs5=>?_))
 ·exact kv U (ay (aw (v':=I (((i1+1):Nat):Int)) U (bw ob) (qO 2 U (bB (L':=[z2,(b2,dR),z1]) js (ag1 (bS,dR) hs4 ⟨gd,lc⟩)))))
 refine qK 9 [0,0,0] U (aF (fw (cells:=[I y1.Person,I y1.Party,.bool y1.Of]) (places:=[(0,1),(1,1),(2,1)]) Hf zc284 kr kr (aV zc284 (fun b6=>aS 0 ty284 U U U U U U (qL 4 [2] U (cW 0 ty284 U U U (aF (kh 3 (k:=(dS.mk y1.Person y1.Party y1.Of)) underlying282 rA U gd (eG zv97) (show (iH Interest.rp) _ (.agg (List.toArray [I 0,I 0,I 0,I 0,I 0,.bool false,.bool false])) (Interest.mk 0 0 0 0 0 false false) from ⟨_,U,U⟩) U U (fun v1 hv1=>?_)))))))))
 obtain ⟨_,rfl,rfl⟩:=hv1
 refine qO 3 U (aV zc97 (fun b7=>aS 0 ty97 U U U U U U (qO 7 U (bY 6 [45,46,47,48,49,50,51] 45 51 (decide ((mgetD bS (dS.mk y1.Person y1.Party y1.Of) (Interest.mk 0 0 0 0 0 false false)).At≤y1.At)) U (fun c3 hk2=>?_) (fun e=>?_)))))
 ·exact qL 6 [2,0] U (hk2 _ U)
 refine aD (ai hs5 U (fun c4 hs6=>?_) (fun c4 hs7=>?_))
 ·exact qK 2 [3] U (cW 1 ty284 U U U (cW 2 ty97 U U U (aF (jJ 4 (k:=(dS.mk y1.Person y1.Party y1.Of)) (x:=y1) underlying282 rA U gd U U ⟨_,U,U⟩ (fun mo1 hm1=>qO 3 U (aw (v':=I (((i1+1):Nat):Int)) U (bw ob) (qO 2 U (bB (L':=[z2,(b2,mo1),z1]) js (ag1 ((mput bS (dS.mk y1.Person y1.Party y1.Of) y1),mo1) hs6 ⟨hm1,(by have:=ly bS (dS.mk y1.Person y1.Party y1.Of) y1;first | omega | (simp only [List.length_nil,List.length_cons] at *;omega))⟩)))))))))
 exact aJ (qT 2 U (aw (v':=I (((i1+1):Nat):Int)) U (bw ob) (qO 2 U (bB (L':=[z2,(b2,dR),z1]) js (ag1 (bS,dR) hs7 ⟨gd,lc⟩)))))
theorem sd.mono {h h':HF} (hl:h.le h'):∀ {vs:List Value} {ws:List gD},sd h vs ws→sd h' vs ws
 | [],[],_=>trivial
 | _::_,_::_,⟨⟨r,e,o⟩,t⟩=>⟨⟨r,e,o.mono hl⟩,sd.mono hl t⟩
 | [],_::_,x=>x.elim
 | _::_,[],x=>x.elim
theorem sd.snoc {h:HF} {v:Value} {w:gD} (hw:∃ r,v=.agg (gD.cells w r).toArray∧gD.ok h w r):∀ {vs:List Value} {ws:List gD},sd h vs ws→sd h (vs++[v]) (ws++[w])
 | [],[],_=>⟨hw,trivial⟩
 | _::_,_::_,⟨a,t⟩=>⟨a,sd.snoc hw t⟩
 | [],_::_,x=>x.elim
 | _::_,[],x=>x.elim
theorem sd.len {h:HF}:∀ {vs:List Value} {ws:List gD},sd h vs ws→vs.length=ws.length
 | [],[],_=>rfl
 | _::_,_::_,⟨_,t⟩=>by simp [sd.len t]
 | [],_::_,x=>x.elim
 | _::_,[],x=>x.elim
theorem kQ (h:HF) (w:gD) (MI:H9) (q1 q2:Addr) (bm bc:Nat) (om:Obj) (m:List (Int×Bool)) (cap s r:Nat) (vs:List Value) (q:List gD)
  (hw:gD.ok h w MI) (a1:At h q1 [.map (some bm)]) (a2:At h q2 [.chan (some bc)]) (hm:iL (Value.int .i64) kW h om m) (hq:sd h vs q) (hroom:mgetD m w.to false=false→vs.length < cap):
  kZ prog (.func (.func 112) #[] #[.pointer (some q1),.pointer (some q2)]) #[.agg (gD.cells w MI).toArray] h [(bm,om),(bc,.chan cap vs.toArray false s r false)]
   (fun x h' B=>x=.returned (.tuple #[])∧h'=h∧∃ om' vs' s',iL (Value.int .i64) kW h om' (conPut w m q).1∧sd h vs' (conPut w m q).2∧B=[(bm,om'),(bc,.chan cap vs'.toArray false s' r false)]):=by
 refine lT (args:=[.agg (gD.cells w MI).toArray]) (cap:=[.pointer (some q1),.pointer (some q2)]) call112 (cz func112 U ntmps112 U fun X hM hX=>sr (cA (fun b1=>qO 3 U (dF ty56 a1 U (qL 2 [0] U (aF (mJ 1 (k:=w.to) yG (eY lS) U hm (eG zv4) (show kW _ (.bool false) false from U) U U (fun v hv=>?_))))))))
 obtain rfl:=hv
 cases hc:mgetD m w.to false with
 | true=>
  refine qO 4 U ?_
  have e1:conPut w m q=(m,q):=by simp [conPut,hc]
  refine tL func112 (fun a ha w hw=>kO U a w) (fun w hw=>(hw.sub (L':=[(bm,om),(bc,.chan cap vs.toArray false s r false)]) js).lower) ⟨U,hX,om,vs,s,?_,?_,U⟩
  ·rw [e1];exact hm
  rw [e1];exact hq
 | false=>
  refine qO 3 U ?_
  have e1:conPut w m q=(mput m w.to true,q++[w]):=by simp [conPut,hc]
  refine sr (dF ty56 a1 U (qL 2 [0] U (aF (jJ 1 (k:=w.to) (x:=true) yG (eY lS) U hm U U U (fun om' hm'=>qO 2 U (dF ty194 a2 U (cW 0 ty196 U U U (Mt 2 U U U (hroom hc) (aD ?_)))))))))
  refine tL func112 (fun a ha w hw=>kO U a w) (fun ww hww=>(hww.sub (L':=[(bm,om'),(bc,.chan cap (vs++[Value.agg (gD.cells w MI).toArray]).toArray false (s+1) r false)]) js).lower) ⟨U,hX,om',vs++[.agg (gD.cells w MI).toArray],s+1,?_,?_,U⟩
  ·rw [e1];exact hm'
  rw [e1];exact sd.snoc ⟨MI,rfl,hw⟩ hq
theorem V3.mono:vM V3:=fun _ _ _ _ _ e=>e
theorem FR.mono {h h':HF} (hl:h.le h'):∀ {m:List (Int×Option Addr×Nat×Nat)} {f:List (Int×List Interest)} {G:LH},FR h m f G→FR h' m f G
 | [],[],_,e=>e
 | (_,_)::_,(_,_)::_,_,⟨a,b,G1,G2,c,d,t⟩=>⟨a,b,G1,G2,c,d.mono Interest.ao hl,FR.mono hl t⟩
 | [],(_,_)::_,_,x=>x.elim
 | (_,_)::_,[],_,x=>x.elim
theorem FR.get {h:HF} (k:Int):∀ {m:List (Int×Option Addr×Nat×Nat)} {f:List (Int×List Interest)} {G:LH},FR h m f G →
  ∃ b c G1 G2,mgetD m k (none,0,0)=(b,(mgetD f k []).length,c)∧em Interest.rp 97 h (mgetD f k []) b c G1∧G.Perm (G1++G2) ∧
   ∀ b' c' xs' G1',em Interest.rp 97 h xs' b' c' G1'→∃ G',FR h (mput m k (b',xs'.length,c')) (mput f k xs') G'∧G'.Perm (G1'++G2)
 | [],[],G,e=>by
  subst e
  refine ⟨none,0,[],[],U,em.nil,List.Perm.refl _,fun b' c' xs' G1' hG=>⟨G1',⟨U,U,G1',[],by simp,hG,U⟩,by simp⟩⟩
 | (k0,x)::m,(k',xs)::f,G,⟨e,hn,G1,G2,hG,hg,t⟩=>by
  subst e hG
  by_cases hk:k=k0
  ·subst hk
   refine ⟨x.1,x.2.2,G1,G2,?_,?_,List.Perm.refl _,fun b' c' xs' G1' hG'=>⟨G1'++G2,?_,List.Perm.refl _⟩⟩
   ·simp [mgetD,mget?,← hn]
   ·simpa [mgetD,mget?] using hg
   simp only [mput,if_true]
   exact ⟨U,U,G1',G2,U,hG',t⟩
  obtain ⟨b,c,H1,H2,h1,h2,h3,h4⟩:=FR.get k t
  refine ⟨b,c,H1,G1++H2,?_,?_,?_,fun b' c' xs' G1' hG'=>?_⟩
  ·simpa [mgetD,mget?,hk] using h1
  ·simpa [mgetD,mget?,hk] using h2
  ·refine (List.Perm.append_left G1 h3).trans ?_
   rw [← List.append_assoc,← List.append_assoc];exact List.Perm.append_right H2 List.perm_append_comm
  obtain ⟨G',g1,g2⟩:=h4 b' c' xs' G1' hG'
  refine ⟨G1++G',?_,?_⟩
  ·simp only [mput,hk,if_false]
   exact ⟨U,hn,G1,G',U,hg,g1⟩
  refine (List.Perm.append_left G1 g2).trans ?_
  rw [← List.append_assoc,← List.append_assoc];exact List.Perm.append_right H2 List.perm_append_comm
 | [],(_,_)::_,_,x=>x.elim
 | (_,_)::_,[],_,x=>x.elim
theorem FR.keys {h:HF}:∀ {m:List (Int×Option Addr×Nat×Nat)} {f:List (Int×List Interest)} {G:LH},FR h m f G→m.map (·.1)=f.map (·.1)
 | [],[],_,_=>rfl
 | (_,_)::_,(_,_)::_,_,⟨a,_,_,_,_,_,t⟩=>by simp [a,FR.keys t]
 | [],(_,_)::_,_,x=>x.elim
 | (_,_)::_,[],_,x=>x.elim
theorem FR.mem {h:HF}:∀ {m:List (Int×Option Addr×Nat×Nat)} {f:List (Int×List Interest)} {G:LH},FR h m f G→(m.map (·.1)).Nodup→∀ p∈m,p.2.2.1=(mgetD f p.1 []).length∧∃ G1,(∀ q∈G1,q∈G)∧em Interest.rp 97 h (mgetD f p.1 []) p.2.1 p.2.2.2 G1
 | [],[],_,_,_,_,hp=>(List.not_mem_nil hp).elim
 | (k,x)::m,(k',xs)::f,G,⟨e,hn,G1,G2,hG,hg,t⟩,hnd,p,hp=>by
  subst e hG
  rw [List.map_cons,List.nodup_cons] at hnd
  rcases List.mem_cons.1 hp with rfl | hp
  ·exact ⟨by simp [mgetD,mget?,hn],G1,fun q hq=>List.mem_append_left _ hq,by simpa [mgetD,mget?] using hg⟩
  have hne:¬ p.1=k:=fun e=>hnd.1 (by have h9:=List.mem_map_of_mem (f:=(·.1)) hp;rw [e] at h9;exact h9)
  obtain ⟨h1,H,h2,h3⟩:=FR.mem t hnd.2 p hp
  exact ⟨by simpa [mgetD,mget?,hne] using h1,H,fun q hq=>List.mem_append_right _ (h2 q hq),by simpa [mgetD,mget?,hne] using h3⟩
 | [],(_,_)::_,_,x,_,_,_=>x.elim
 | (_,_)::_,[],_,x,_,_,_=>x.elim
theorem Fk {α : Type}:∀ {f:List (Int×α)} (z:α),(f.map (·.1)).Nodup→f=f.map fun p=>(p.1,mgetD f p.1 z)
 | [],_,_=>rfl
 | (k,x)::f,z,hn=>by
  rw [List.map_cons,List.nodup_cons] at hn
  rw [List.map_cons]
  congr 1
  ·simp [mgetD,mget?]
  have ih:=Fk z hn.2
  conv=>lhs;rw [ih]
  apply List.map_congr_left
  intro p hp
  have hne:¬ p.1=k:=fun e=>hn.1 (by have h9:=List.mem_map_of_mem (f:=(·.1)) hp;rw [e] at h9;exact h9)
  simp [mgetD,mget?,hne]
theorem Ge {h:HF} {h2:HF} (g:Int→List Interest):∀ {es:List MapEntry} {m:List (Int×Option Addr×Nat×Nat)},nf (Value.int .i64) V3 h es m →
  (∀ p∈m,p.2.2.1=(g p.1).length∧SlC Interest.rp h2 p.2.1 p.2.2.2 (g p.1))→nf (Value.int .i64) (VSl Interest.rp) h2 es (m.map fun p=>(p.1,g p.1))
 | [],[],_,_=>trivial
 | e::es,(k,x)::m,⟨a,b,c⟩,hg=>by
  obtain ⟨h1,h3⟩:=hg (k,x) (List.mem_cons_self ..)
  refine ⟨a,⟨x.1,x.2.2,?_,h3⟩,Ge g c fun p hp=>hg p (List.mem_cons_of_mem _ hp)⟩
  rw [show e.val=.slice x.1 x.2.1 x.2.2 from b,h1]
 | [],_::_,x,_=>x.elim
 | _::_,[],x,_=>x.elim
theorem FR.frozen {h h2:HF} {o:Obj} {m:List (Int×Option Addr×Nat×Nat)} {f:List (Int×List Interest)} {G:LH} (hm:iL (Value.int .i64) V3 h o m) (hf:FR h m f G) (hl:h.le h2) (hG:∀ p∈G,h2 p.1=some p.2):
  iL (Value.int .i64) (VSl Interest.rp) h2 o f:=by
 have hnd:=hm.nodup
 have hk:=hf.keys
 obtain ⟨m',hp,hn,es,c,rfl,hE,h1,h3⟩:=hm
 have hmem:=hf.mem hnd
 have hfe:=Fk (f:=f) [] (hk ▸ hnd)
 have hfm:f=m.map fun p=>(p.1,mgetD f p.1 []):=by
  have e1:(f.map fun p=>(p.1,mgetD f p.1 []))=(f.map (·.1)).map fun k=>(k,mgetD f k []):=by rw [List.map_map];rfl
  have e2:(m.map fun p=>(p.1,mgetD f p.1 []))=(m.map (·.1)).map fun k=>(k,mgetD f k []):=by rw [List.map_map];rfl
  rw [e2,hk,← e1];exact hfe
 refine ⟨m'.map fun p=>(p.1,mgetD f p.1 []),?_,?_,es,c,U,Ge (fun k=>mgetD f k []) hE fun p hp'=>?_,h1,h3⟩
 ·have hpm:=hp.map fun p=>(p.1,mgetD f p.1 ([]:List Interest))
  rw [← hfm] at hpm;exact hpm
 ·rw [List.map_map];exact hn
 obtain ⟨h5,G1,h6,h7⟩:=hmem p (hp.mem_iff.1 hp')
 exact ⟨h5,h7.frozen Interest.ao hl fun q hq=>hG q (h6 q hq)⟩
theorem BU (k:Int→Int):∀ (l:List Int) (g:Int),cM.L1 k l g=0→(∀ x∈l,g < x∧x≤1048576)∧l.Pairwise (· < ·)∧∃ g',k g'=0
 | [],g,h=>⟨fun _ h=>(List.not_mem_nil h).elim,List.Pairwise.nil,g,h⟩
 | y::l,g,h=>by
  simp only [cM.L1,Bool.cond_eq_ite,Bool.or_eq_true,decide_eq_true_eq] at h
  split at h
  ·omega
  next hc=>
  obtain ⟨h1,h2,h3⟩:=BU k l y h
  refine ⟨fun x hx=>?_,List.pairwise_cons.2 ⟨fun x hx=>(h1 x hx).1,h2⟩,h3⟩
  rcases List.mem_cons.1 hx with rfl | hx
  ·omega
  have:=h1 x hx;omega
theorem zL {l:List Interest} {person:Int} {parties:List Int} {a b:Int} (h:cM l person parties a b=0):parties.Pairwise (·≤·)∧parties.length≤16:=by
 unfold cM at h
 rw [Bool.cond_eq_ite] at h
 split at h
 ·next hc=>simp at hc;exact absurd h hc
 obtain ⟨_,h2,g',h3⟩:=BU _ _ _ h
 refine ⟨h2.imp (fun h=>Int.le_of_lt h),?_⟩
 unfold cM.K1 at h3
 rw [Bool.cond_eq_ite] at h3
 split at h3
 ·omega
 next hc=>
 simp only [Bool.or_eq_true,not_or,decide_eq_true_eq] at hc
 omega
theorem pH (h:HF) (b:Option Addr) (n c:Nat) (hc:n≤c):Ret prog 115 [.slice b n c] h (.slice b n n):=by
 exact cz func115 U ntmps115 U fun X hM hX=>qK 11 [] U (aF (fg (Mn fa ty3 U U U hc) (an (qv [.slice b n n] func115 U hX rd U))))
theorem lH (h:HF) (l:List Interest) (e8:Option Addr) (eZ:Nat) (person:Int) (parties:List Int) (kg:Option Addr) (ke:Nat) (cL known:Int)
  (hl:SlC Interest.rp h e8 eZ l) (hparties:SlC Rp.int h kg ke parties) (hsz:l.length≤2000000):
  jN prog 31 [.slice e8 l.length eZ,I person,.slice kg parties.length ke,I cL,I known] h
   (fun v h'=>∃ (rb0:Option Addr) (rc0:Nat),v=.tuple #[.slice rb0 ((cC l person parties cL known).1.length) rc0,.bool ((cC l person parties cL known).2.1),I ((cC l person parties cL known).2.2)]∧SlC Rp.int h' rb0 rc0 ((cC l person parties cL known).1)):=by
 refine cz G9 U ntmps31 U fun X hM hX=>sr (cA (fun b1=>qL 12 [0] U (av (v:=I (cM l person parties cL known)) call111 (ut h l e8 eZ person parties kg ke cL known hl hparties) U (qO 7 U (jG U (fun c1=>?_) (fun c1=>?_))))))
 ·have e1:cC l person parties cL known=([],false,cM l person parties cL known):=by unfold cC;rw [c1];rfl
  exact sr (qO 5 U (jd [.slice none 0 0,.bool false,I (cM l person parties cL known)] G9 U rd ⟨none,0,by rw [e1];rfl,by rw [e1];exact SlC.nil⟩))
 have hex:cM l person parties cL known=0:=by simpa using c1
 obtain ⟨hps,hpl⟩:=zL hex
 have e1:cC l person parties cL known=((conFind l person parties (cT l cL known)).1,(conFind l person parties (cT l cL known)).2,0):=by unfold cC;rw [c1];rfl
 rw [e1]
 have hstl:=EK l cL known
 generalize hst:cT l cL known=st at hstl
 refine qT 3 U (aF (mr (fun bf=>aV zc193 (fun b14=>cJ 0 ty193 U U U U U U (qO 3 U (aF (mr (fun bm=>aV zc56 (fun b15=>cJ 0 ty56 U U U U U U (qL 5 [] U (aF (JQ underlying194 bytes196 U ob (by decide) (fun bc=>aV zc194 (fun b16=>cJ 0 ty194 U U U U U U (qO 3 U (aF (et U U (aV zc197 (fun b17=>cJ 0 ty197 U U U U U U (aD (eI 0 U hM (fun h1 l1 f17=>eI 0 U hM (fun h2 l2 f16=>eI 1 U hM (fun h3 l3 f15=>eI 2 U hM (fun h4 l4 f14=>eI 3 U hM (fun h5 l5 f1=>?_))))))))))))))))))))))))))
 have a17:=(ct f17).mono (l2.t (l3.t (l4.t l5)))
 have a16:=(ct f16).mono (l3.t (l4.t l5))
 have a15:=(ct f15).mono (l4.t l5)
 have a14:=(ct f14).mono l5
 have a1:=ct f1
 have l05:h.le h5:=HF.le_trans l1 (l2.t (l3.t (l4.t l5)))
 clear f17 f16 f15 f14 f1 l1 l2 l3 l4 l5
 refine qT 6 U (aF (cY call113 (tr h5 l e8 eZ cL known (hl.mono Interest.ao l05)) U (fun v1 h6 l6 hp1=>?_)))
 obtain ⟨_,rfl,hit⟩:=hp1
 rw [hst] at hit
 refine qO 2 U (dY ?_)
 refine jw (it:=v1) (xs:=st) (ι:=List (Int×List Interest)×List (Int×Bool)×List gD×List Value×Nat×Obj×List (Int×Option Addr×Nat×Nat)×Obj×LH×HF) [] (fun i=>i.2.2.2.2.2.2.2.2.2)
  (fun i=>[(bc,.chan l.length i.2.2.2.1.toArray false i.2.2.2.2.1 0 false),(bm,i.2.2.2.2.2.1),(bf,i.2.2.2.2.2.2.2.1)]++i.2.2.2.2.2.2.2.2.1)
  (fun rest i=>(conFill person rest i.1 i.2.1 i.2.2.1=conFill person st [] [] []∧(∀ x∈rest,x∈st))∧(sd i.2.2.2.2.2.2.2.2.2 i.2.2.2.1 i.2.2.1∧iL (Value.int .i64) kW i.2.2.2.2.2.2.2.2.2 i.2.2.2.2.2.1 i.2.1∧iL (Value.int .i64) V3 i.2.2.2.2.2.2.2.2.2 i.2.2.2.2.2.2.2.1 i.2.2.2.2.2.2.1∧FR i.2.2.2.2.2.2.2.2.2 i.2.2.2.2.2.2.1 i.1 i.2.2.2.2.2.2.2.2.1)∧(se st i.2.1 i.2.2.1∧Ia st i.1)∧h6.le i.2.2.2.2.2.2.2.2.2∧(∀ k,(mgetD i.1 k []).length+rest.length≤l.length))
  (fun _=>False) (fun _=>False) 0 (fun _ _ _=>False) ([],[],[],[],0,.map #[] 0,[],.map #[] 0,[],h6) G9 rfl hit rfl yn (fun _ _ _ _ _ hq=>hq) rfl rfl
  ⟨⟨rfl,fun _ hx=>hx⟩,⟨trivial,iL.nil,iL.nil,rfl⟩,⟨⟨fun _ hp=>(List.not_mem_nil hp).elim,Nat.le_refl _,fun _ hp=>(List.not_mem_nil hp).elim⟩,fun _ _ hx=>(List.not_mem_nil hx).elim⟩,HF.le_refl _,fun k=>by simp [mgetD,mget?];exact hstl⟩ ?_ ?_ (fun _ _ _ hF=>hF.elim) (fun _ _ _ hF=>hF.elim) (fun _ _ _ _ hF=>hF.elim)
 ·rintro l1 r1 lp1 x rest vs1 ⟨f,m,q,vs,s,om,m3,o3,Gf,hh⟩ h7 X' hFR ⟨⟨hfill,hin⟩,⟨hwy,hmm,hm3,hfr⟩,⟨hgq,hgf⟩,h6h,hlen⟩ h67 hh7 hv hX' hXM hlp nx rt ex pn
  dsimp only at hfill hin hwy hmm hm3 hfr hgq hgf h6h hh7 hlen
  obtain rfl:=hv
  have hxst:x∈st:=hin x (List.mem_cons_self ..)
  have hin':∀ y∈rest,y∈st:=fun y hy=>hin y (List.mem_cons_of_mem _ hy)
  have h57:h5.le h7:=HF.le_trans l6 h67
  replace hwy:=hwy.mono hh7
  replace hmm:=hmm.mono kW.mono hh7
  replace hm3:=hm3.mono V3.mono hh7
  replace hfr:=hfr.mono hh7
  have h67':h6.le h7:=h67
  clear hh7 h6h
  refine ay (aV zc97 (fun b18=>aS 0 ty97 U U U U U U (aD (jh 1 U hlp (qT 2 U (cu (L':=[(b18,.cells (Interest.cells x).toArray 97 (0,0)),(l1,.loop { lp1 with state:=.busy }),(r1,.deferred (some [])),(bc,.chan l.length vs.toArray false s 0 false),(bm,om),(bf,o3)]++Gf) (by simp [markB,setNth]) (qK 6 [0] U (jG U (fun cO=>?_) (fun cO=>?_)))))))))
  ·obtain ⟨gb,gc,G1,G2,hget,hgrow,hperm,hput⟩:=hfr.get x.Person
   have hlx:=hlen x.Person
   simp only [List.length_cons] at hlx
   have hnext:conFill person rest (mput f x.Person (mgetD f x.Person []++[x])) m q=conFill person st [] [] []:=by
    rw [← hfill];simp [conFill,cO]
   have hlen':∀ k,(mgetD (mput f x.Person (mgetD f x.Person []++[x])) k []).length+rest.length≤l.length:=fun k=>by
    rw [wh]
    split
    ·simp only [List.length_append,List.length_cons,List.length_nil];omega
    have:=hlen k;simp only [List.length_cons] at this;omega
   have fin:∀ (e':Env) (b8:Nat) (o8:Obj) (o3':Obj) (gb':Option Addr) (gc':Nat) (G1':LH),em Interest.rp 97 h7 (mgetD f x.Person []++[x]) gb' gc' G1'→iL (Value.int .i64) V3 h7 o3' (mput m3 x.Person (gb',(mgetD f x.Person []++[x]).length,gc')) →
     TT prog (roundFrame l1 31) 111 [.inBlock 2,.inBlock 1] hFR e' [] X' h7 ([(b8,o8),(b18,.cells (Interest.cells x).toArray 97 (0,0)),(l1,.loop { lp1 with state:=.busy }),(r1,.deferred (some [])),(bc,.chan l.length vs.toArray false s 0 false),(bm,om),(bf,o3')]++(G2++G1')):=by
    intro e' b8 o8 o3' gb' gc' G1' hG' hm'
    obtain ⟨G',hfr',hp'⟩:=hput gb' gc' _ G1' hG'
    exact da (da (bB (L':=[(l1,.loop { lp1 with state:=.busy }),(r1,.deferred (some [])),(bc,.chan l.length vs.toArray false s 0 false),(bm,om),(bf,o3')]++(G2++G1')) js (mp (L':=[(l1,.loop { lp1 with state:=.busy }),(r1,.deferred (some [])),(bc,.chan l.length vs.toArray false s 0 false),(bm,om),(bf,o3')]++G') (List.Perm.append_left _ (List.perm_append_comm.trans hp'.symm)) (cu (L':=rdH l1 r1 lp1 (([(bc,.chan l.length vs.toArray false s 0 false),(bm,om),(bf,o3')]++G')++markB [])) (by simp [markB]) (nx (mput f x.Person (mgetD f x.Person []++[x]),m,q,vs,s,om,mput m3 x.Person (gb',(mgetD f x.Person []++[x]).length,gc'),o3',G',h7) _ _ ⟨⟨hnext,hin'⟩,⟨hwy,hmm,hm',hfr'⟩,⟨hgq,hgf.put hxst⟩,h67',hlen'⟩ lf)))))
   have hJ:∀ {L:LH},Jst h7 [(b18,.cells (Interest.cells x).toArray 97 (0,0))] h7 ((b18,.cells (Interest.cells x).toArray 97 (0,0))::L):=fJ js
   have hJ2:∀ {L:LH} {p:Nat×Obj},Jst h7 [(b18,.cells (Interest.cells x).toArray 97 (0,0))] h7 (p::(b18,.cells (Interest.cells x).toArray 97 (0,0))::L):=fJ js
   refine eQ [(b18,.cells (Interest.cells x).toArray 97 (0,0))] mixed kr hJ (fun hsep _=>?_)
   refine dX 0 hsep hJ U U kr U (fun _ _ hj=>eV ty193 ((a14.mono h57).mono hj.1) U) (dX 1 hsep hJ U U kr U (fun _ _ _=>jS HQ U) (dX 2 hsep hJ U U kr U (fun _ _ hj=>fH ty3 U (hj.nth (i:=0) U) U) (dX 3 hsep hJ U U kr U (fun _ _ hj=>eV ty193 ((a14.mono h57).mono hj.1) U) (dX 4 hsep hJ U U kr U (fun _ _ _=>jS HQ U) (dX 5 hsep hJ U U kr U (fun _ _ hj=>fH ty3 U (hj.nth (i:=0) U) U) (dX 7 hsep hJ U U kr U (fun _ _ hj=>je ty97 U (hj.nth (i:=0) U) U) ?_))))))
   refine mT 6 8 kr U U ?_ ?_
   ·refine mJ 5 (k:=x.Person) G0 (eY lS) U hm3 (eG zv24) (show V3 _ (.slice none 0 0) (none,0,0) from U) U U (fun v hv=>?_)
    rw [hget] at hv
    obtain rfl:=hv
    exact ⟨hJ,tn 8 U (bV (cells:=Interest.cells x) sU ty97 zc97 U U kr (fun b8=>⟨hJ2,tn 9 U (AE (List.Perm.append_left ([(b8,.cells (Interest.cells x).toArray 97 (0,0)),(b18,.cells (Interest.cells x).toArray 97 (0,0)),(l1,.loop { lp1 with state:=.busy }),(r1,.deferred (some [])),(bc,.chan l.length vs.toArray false s 0 false),(bm,om),(bf,o3)]:LH) hperm) (eR Interest.eF [(b8,.cells (Interest.cells x).toArray 97 (0,0)),(b18,.cells (Interest.cells x).toArray 97 (0,0)),(l1,.loop { lp1 with state:=.busy }),(r1,.deferred (some [])),(bc,.chan l.length vs.toArray false s 0 false),(bm,om),(bf,o3)] G2 (fun G=>[(b8,.cells (Interest.cells x).toArray 97 (0,0)),(b18,.cells (Interest.cells x).toArray 97 (0,0)),(l1,.loop { lp1 with state:=.busy }),(r1,.deferred (some [])),(bc,.chan l.length vs.toArray false s 0 false),(bm,om),(bf,o3)]++(G2++G)) U (fun _=>U) sU ty97 zc97 U bytes97 hgrow U U (fI 0 U (show bu Interest.rp h7 (Interest.cells x) [x] from ⟨Interest.cells x,[],by simp,U,U,U⟩)) lo lo (fun gb' gc' G1' hG'=>⟨hJ2,tn 10 U (jJ 6 (k:=x.Person) (x:=(gb',(mgetD f x.Person []++[x]).length,gc')) G0 (eY lS) U hm3 U U U (fun o3' hm'=>⟨hJ2,aW kr (fin _ b8 _ o3' gb' gc' G1' hG' hm')⟩))⟩)))⟩))⟩
   refine bV (cells:=Interest.cells x) sU ty97 zc97 U U kr (fun b8=>⟨hJ2,tn 6 U (mJ 6 (k:=x.Person) G0 (eY lS) U hm3 (eG zv24) (show V3 _ (.slice none 0 0) (none,0,0) from U) U U (fun v hv=>?_))⟩)
   rw [hget] at hv
   obtain rfl:=hv
   exact ⟨hJ2,tn 9 U (AE (List.Perm.append_left ([(b8,.cells (Interest.cells x).toArray 97 (0,0)),(b18,.cells (Interest.cells x).toArray 97 (0,0)),(l1,.loop { lp1 with state:=.busy }),(r1,.deferred (some [])),(bc,.chan l.length vs.toArray false s 0 false),(bm,om),(bf,o3)]:LH) hperm) (eR Interest.eF [(b8,.cells (Interest.cells x).toArray 97 (0,0)),(b18,.cells (Interest.cells x).toArray 97 (0,0)),(l1,.loop { lp1 with state:=.busy }),(r1,.deferred (some [])),(bc,.chan l.length vs.toArray false s 0 false),(bm,om),(bf,o3)] G2 (fun G=>[(b8,.cells (Interest.cells x).toArray 97 (0,0)),(b18,.cells (Interest.cells x).toArray 97 (0,0)),(l1,.loop { lp1 with state:=.busy }),(r1,.deferred (some [])),(bc,.chan l.length vs.toArray false s 0 false),(bm,om),(bf,o3)]++(G2++G)) U (fun _=>U) sU ty97 zc97 U bytes97 hgrow U U (fI 0 U (show bu Interest.rp h7 (Interest.cells x) [x] from ⟨Interest.cells x,[],by simp,U,U,U⟩)) lo lo (fun gb' gc' G1' hG'=>⟨hJ2,tn 10 U (jJ 6 (k:=x.Person) (x:=(gb',(mgetD f x.Person []++[x]).length,gc')) G0 (eY lS) U hm3 U U U (fun o3' hm'=>⟨hJ2,aW kr (fin _ b8 _ o3' gb' gc' G1' hG' hm')⟩))⟩)))⟩
  refine qK 4 [0] U (dF ty3 (a1.mono h57) U (qO 3 U ?_))
  have hlen':∀ k,(mgetD f k []).length+rest.length≤l.length:=fun k=>by have:=hlen k;simp only [List.length_cons] at this;omega
  refine jG U (fun cP=>?_) (fun cP=>?_)
  ·have hnext:conFill person rest f (conPut ⟨[x.No],x.Party⟩ m q).1 (conPut ⟨[x.No],x.Party⟩ m q).2=conFill person st [] [] []:=by
    rw [← hfill];simp only [conFill,cO,cond_false,cP,cond_true]
   have hpty:(gD.mk [x.No] x.Party).to∈st.map (·.Party):=List.mem_map_of_mem hxst
   refine ay (dF ty197 (a17.mono h57) U (qL 2 [0] U (aF (Io (cells:=[I x.No]) hXM fa ty3 zc3 U U kr (fun b65 hb65=>As 0 U hb65 (fun h8 l8 f8=>?_))))))
   have sl8:SlC Rp.int h8 (some ⟨b65,0,none⟩) 1 [x.No]:=bu.slB0 (T:=3) (fz:=(0,0)) (show bu Rp.int h8 [I x.No] [x.No] from ⟨[I x.No],[],rfl,rfl,rfl,rfl⟩) f8
   refine qL 2 [0] U (aF (fw (cells:=gD.cells ⟨[x.No],x.Party⟩ ⟨some ⟨b65,0,none⟩,1⟩) (places:=[(0,1),(1,1)]) underlying196 zc196 kr kr ?_))
   refine aF (DR (vs:=[.agg (gD.cells ⟨[x.No],x.Party⟩ ⟨some ⟨b65,0,none⟩,1⟩).toArray]) [(bm,om),(bc,.chan l.length vs.toArray false s 0 false)] ([(b18,.cells (Interest.cells x).toArray 97 (0,0)),(l1,.loop { lp1 with state:=.busy }),(r1,.deferred (some [])),(bf,o3)]++Gf) ?_
    (kQ h8 ⟨[x.No],x.Party⟩ ⟨some ⟨b65,0,none⟩,1⟩ ⟨b15,0,none⟩ ⟨b16,0,none⟩ bm bc om m l.length s 0 vs q ⟨sl8⟩ (a15.mono (h57.t l8)) (a16.mono (h57.t l8)) (hmm.mono kW.mono l8) (hwy.mono l8) (fun hno=>by rw [hwy.len];exact uD hgq hmm.nodup hpty hstl hno)) rfl rfl (fun B hB=>?_))
   ·exact uO [(b18,.cells (Interest.cells x).toArray 97 (0,0)),(l1,.loop { lp1 with state:=.busy }),(r1,.deferred (some []))] ((bf,o3)::Gf) (bc,.chan l.length vs.toArray false s 0 false) (bm,om)
   obtain ⟨om',vs',s',hm',hw',rfl⟩:=hB
   refine qO 3 U (bB (L':=[(bm,om'),(bc,.chan l.length vs'.toArray false s' 0 false)]++([(l1,.loop { lp1 with state:=.busy }),(r1,.deferred (some [])),(bf,o3)]++Gf)) js ?_)
   refine mp (L':=rdH l1 r1 lp1 (([(bc,.chan l.length vs'.toArray false s' 0 false),(bm,om'),(bf,o3)]++Gf)++markB [])) ?_ ?_
   ·rw [show markB []=([]:LH) from rfl,List.append_nil]
    exact (uO [(l1,Obj.loop { lp1 with state:=.busy }),(r1,.deferred (some []))] ((bf,o3)::Gf) (bc,.chan l.length vs'.toArray false s' 0 false) (bm,om')).symm
   exact nx (f,(conPut ⟨[x.No],x.Party⟩ m q).1,(conPut ⟨[x.No],x.Party⟩ m q).2,vs',s',om',m3,o3,Gf,h8) _ _ ⟨⟨hnext,hin'⟩,⟨hw',hm',hm3.mono V3.mono l8,hfr.mono l8⟩,⟨qY hgq hpty (by simp),hgf⟩,HF.le_trans h67' l8,hlen'⟩ lf
  have hnext:conFill person rest f m q=conFill person st [] [] []:=by
   rw [← hfill];simp only [conFill,cO,cond_false,cP]
  exact aJ (qT 2 U (bB (L':=[(l1,.loop { lp1 with state:=.busy }),(r1,.deferred (some [])),(bc,.chan l.length vs.toArray false s 0 false),(bm,om),(bf,o3)]++Gf) js (cu (L':=rdH l1 r1 lp1 (([(bc,.chan l.length vs.toArray false s 0 false),(bm,om),(bf,o3)]++Gf)++markB [])) (by simp [markB]) (nx (f,m,q,vs,s,om,m3,o3,Gf,h7) _ _ ⟨⟨hnext,hin'⟩,⟨hwy,hmm,hm3,hfr⟩,⟨hgq,hgf⟩,h67',hlen'⟩ lf))))
 rintro dm ⟨f,m0,q0,vs0,s0,om0,m3,o3,Gf,hh⟩ h7 ⟨⟨hfill,_⟩,⟨hwy,hmm,hm3,hfr⟩,⟨hgq,hgf⟩,h6h,hlen⟩ hh7 h67
 dsimp only at hfill hwy hmm hm3 hfr hgq hgf h6h hh7 hlen
 refine da (eI 2 U hM (fun h8 l8 f8=>Ao [(bc,.chan l.length vs0.toArray false s0 0 false),(bm,om0)] Gf (markB [dm]) U hM (fun h9 l9 hG9=>?_)))
 have h89:hh.le h9:=HF.le_trans hh7 (l8.t l9)
 have hmF:iL (Value.int .i64) (VSl Interest.rp) h9 o3 f:=FR.frozen hm3 hfr h89 hG9
 have hbf:h9 bf=some o3:=l9 _ _ f8
 have h59:h5.le h9:=HF.le_trans l6 (h67.t (l8.t l9))
 replace a14:=a14.mono h59
 replace a15:=a15.mono h59
 replace a16:=a16.mono h59
 replace a17:=a17.mono h59
 have hpar:=(hparties.mono Rp.aY l05).mono Rp.aY h59
 have hcf:conFind l person parties st=conLoop parties f (l.length+1) m0 q0:=by
  unfold conFind;rw [← hfill];rfl
 have hwy0:=hwy.mono h89
 have hmm0:=hmm.mono kW.mono h89
 clear hwy hmm hm3 hfr hG9 l8 f8 h6h hh7 h67 hfill a1
 generalize hCF:conFind l person parties st=CF at hcf
 refine aR ?_
 refine jx (ι:=List Value×Nat×Nat×Obj×HF) (fun i=>[]) (fun i=>i.2.2.2.2) (fun i=>[(bc,.chan l.length i.1.toArray false i.2.1 i.2.2.1 false),(bm,i.2.2.2.1)]++markB [dm]) (fun i=>CF=([],false)) ?_ (fun hx=>?_)
 ·rintro ⟨vs,s,r,om,hh⟩ hc e
  exact sr (qO 4 U (oq [dm] [.slice none 0 0,.bool false,I 0] G9 U rd ⟨none,0,by rw [hc];rfl,by rw [hc];exact SlC.nil⟩))
 refine ku (ι:=Nat×List (Int×Bool)×List gD×List Value×Nat×Nat×Obj×HF) (fun i=>[(2,.slice kg parties.length ke),(14,Q b14),(16,Q b16),(17,Q b17)]) (fun i=>i.2.2.2.2.2.2.2)
  (fun i=>[(bc,.chan l.length i.2.2.2.1.toArray false i.2.2.2.2.1 i.2.2.2.2.2.1 false),(bm,i.2.2.2.2.2.2.1)]++markB [dm])
  (fun i=>CF=conLoop parties f i.1 i.2.1 i.2.2.1∧i.2.2.1.length+(l.length - i.2.1.length) < i.1∧sd i.2.2.2.2.2.2.2 i.2.2.2.1 i.2.2.1∧iL (Value.int .i64) kW i.2.2.2.2.2.2.2 i.2.2.2.2.2.2.1 i.2.1∧se st i.2.1 i.2.2.1∧h9.le i.2.2.2.2.2.2.2)
  (fun i=>i.1) (l.length+1,m0,q0,vs0,s0,0,om0,h9) rd (fun w hw=>hw) ⟨hcf,?_,hwy0,hmm0,hgq,HF.le_refl _⟩ ?_
 ·show q0.length+(l.length - m0.length) < l.length+1
  have:=hgq.2.1;have:=Kc hgq hmm0.nodup;omega
 clear hcf hwy0 hmm0 hgq
 rintro ⟨n,m,q,vs,s,r,om,hh⟩ ⟨hcf,hn,hwy,hmm,hgq,h9h⟩ ag e
 dsimp only at hcf hn hwy hmm hgq h9h
 obtain ⟨n,rfl⟩:∃ n',n=n'+1:=⟨n - 1,by omega⟩
 refine qT 3 U (dF ty194 (a16.mono h9h) U (aF (fg (Mm underlying194 (List.mem_cons_self ..) U) ?_)))
 rcases q with _ | ⟨w,q⟩
 ·have hv0:vs=[]:=List.eq_nil_of_length_eq_zero hwy.len
  subst hv0
  exact aw (v':=.bool false) U U (qO 3 U (hx ([],s,r,om,hh) _ hcf trivial))
 rcases vs with _ | ⟨v,vs⟩
 ·exact hwy.elim
 obtain ⟨⟨wr,rfl,hok⟩,hwy⟩:=hwy
 refine aw (v':=.bool true) U (cb (decide_eq_true (by simp))) (qO 6 U (dF ty194 (a16.mono h9h) U (Mu 0 underlying194 zv196 U U (aV zc196 (fun b19=>aS 0 ty196 U U U U U U (qL 7 [0] U (av (v:=.tuple #[I (slices_BinarySearch_int parties w.to).1,.bool (slices_BinarySearch_int parties w.to).2]) call114 (lU hh parties kg ke w.to (hpar.mono Rp.aY h9h) hps ob) U (qO 10 U ?_))))))))
 have hgq':se st m q:=⟨hgq.1,by have:=hgq.2.1;simp only [List.length_cons] at this;omega,fun w' hw'=>hgq.2.2 w' (List.mem_cons_of_mem _ hw')⟩
 have hw8:=hgq.2.2 w (List.mem_cons_self ..)
 simp only [List.length_cons] at hn
 refine jG U (fun cF=>?_) (fun cF=>?_)
 ·have hc2:CF=(w.path,true):=by
   rw [hcf];simp only [conLoop];rw [show parties.contains w.to=true from cF];rfl
  exact qK 8 [0] U (bB (L':=[(bc,.chan l.length vs.toArray false s (r+1) false),(bm,om)]++markB [dm]) js (oq [dm] [.slice wr.ug w.path.length wr.vZ,.bool true,I 0] G9 U rd ⟨wr.ug,wr.vZ,by rw [hc2];rfl,by rw [hc2];exact hok.path⟩))
 have hc2:CF=(bif (w.path.length:Int)==8 then conLoop parties f n m q else conLoop parties f n (conStep w.path (mgetD f w.to []) m q).1 (conStep w.path (mgetD f w.to []) m q).2):=by
  rw [hcf];simp only [conLoop];rw [show parties.contains w.to=false from cF];rfl
 refine qK 9 [0] U (jG U (fun c8=>?_) (fun c8=>?_))
 ·rw [show ((w.path.length:Int)==8)=true from c8] at hc2
  exact kv U (bB (L':=[(bc,.chan l.length vs.toArray false s (r+1) false),(bm,om)]++markB [dm]) js (ag (n,m,q,vs,s,r+1,om,hh) _ (Nat.lt_succ_self _) ⟨hc2,by show q.length+(l.length - m.length) < n;omega,hwy,hmm,hgq',h9h⟩ rd))
 rw [show ((w.path.length:Int)==8)=false from c8] at hc2
 refine qT 3 U (dF ty193 (a14.mono h9h) U (qL 2 [0] U (aF (mt (k:=w.to) G0 (eY lS) (h9h _ _ hbf) (hmF.mono (VSl.mono Interest.ao) h9h) (eG zv24) (show VSl Interest.rp _ (.slice none 0 0) [] from ⟨none,0,U,SlC.nil⟩) U U (fun v hv=>?_)))))
 obtain ⟨xb,xc,rfl,slx⟩:=hv
 have hxs:∀ y∈mgetD f w.to [],y∈st:=hgf w.to
 generalize mgetD f w.to []=xs at slx hc2 hxs
 refine qL 3 [] U ?_
 have hw7:w.path.length+1≤8:=by simp at c8;omega
 have hsum:=xH (path:=w.path) hstl hw7 hxs hgq' hmm.nodup
 generalize hcs:conStep w.path xs m q=CS at hc2 hsum
 refine jx (ι:=List Value×Nat×Obj×HF) (fun i=>[(2,.slice kg parties.length ke),(14,Q b14),(16,Q b16),(17,Q b17)]) (fun i=>i.2.2.2) (fun i=>[(b19,.cells (gD.cells w wr).toArray 196 (0,0)),(bc,.chan l.length i.1.toArray false i.2.1 (r+1) false),(bm,i.2.2.1)]++markB [dm])
  (fun i=>sd i.2.2.2 i.1 CS.2∧iL (Value.int .i64) kW i.2.2.2 i.2.2.1 CS.1∧se st CS.1 CS.2∧hh.le i.2.2.2) ?_ (fun hx2=>?_)
 ·rintro ⟨vs2,s2,om2,h10⟩ ⟨hw2,hm2,hg2,hle2⟩ e2
  exact da (bB (L':=[(bc,.chan l.length vs2.toArray false s2 (r+1) false),(bm,om2)]++markB [dm]) js (ag (n,CS.1,CS.2,vs2,s2,r+1,om2,h10) _ (Nat.lt_succ_self _) ⟨hc2,by show CS.2.length+(l.length - CS.1.length) < n;omega,hw2,hm2,hg2,HF.le_trans h9h hle2⟩ rd))
 refine ku (ι:=Nat×List (Int×Bool)×List gD×List Value×Nat×Obj×HF×List Interest) (fun i=>[(2,.slice kg parties.length ke),(14,Q b14),(16,Q b16),(17,Q b17),(19,Q b19),(92,.slice xb xs.length xc),(93,I (xs.length:Int)),(94,I (i.1:Int))]) (fun i=>i.2.2.2.2.2.2.1)
  (fun i=>[(b19,.cells (gD.cells w wr).toArray 196 (0,0)),(bc,.chan l.length i.2.2.2.1.toArray false i.2.2.2.2.1 (r+1) false),(bm,i.2.2.2.2.2.1)]++markB [dm])
  (fun i=>xs.drop i.1=i.2.2.2.2.2.2.2∧conStep w.path i.2.2.2.2.2.2.2 i.2.1 i.2.2.1=CS∧sd i.2.2.2.2.2.2.1 i.2.2.2.1 i.2.2.1∧iL (Value.int .i64) kW i.2.2.2.2.2.2.1 i.2.2.2.2.2.1 i.2.1∧se st i.2.1 i.2.2.1∧hh.le i.2.2.2.2.2.2.1)
  (fun i=>i.2.2.2.2.2.2.2.length) (0,m,q,vs,s,om,hh,xs) rd (fun w hw=>hw) ⟨rfl,hcs,hwy,hmm,hgq',HF.le_refl _⟩ ?_
 rintro ⟨i1,m2,q2,vs2,s2,om2,h10,rest⟩ ⟨hd1,hcs2,hw2,hm2,hg2,hle2⟩ ag2 e2
 dsimp only at hd1 hcs2 hw2 hm2 hg2 hle2
 rcases rest with _ | ⟨x,rest⟩
 ·have hge:=nH hd1
  refine sr (aw (v':=.bool false) U (cb hge) (qO 4 U ?_))
  obtain rfl:(m2,q2)=CS:=hcs2
  exact hx2 (vs2,s2,om2,h10) _ ⟨hw2,hm2,hg2,hle2⟩ rd
 have hlt:=rW hd1
 have hget:=rG hd1
 have hxst:x∈st:=hxs x (gi hd1)
 have hpty:(gD.mk (w.path++[x.No]) x.Party).to∈st.map (·.Party):=List.mem_map_of_mem hxst
 have slx2:=slx.mono Interest.ao hle2
 have hokp:=hok.path.mono Rp.aY hle2
 have hO:=slx.1.1
 have eH:=jr hd1
 have h910:h9.le h10:=HF.le_trans h9h hle2
 refine sr (aw (v':=.bool true) U (cb hlt) (qO 8 U (aF (fj (enc:=Interest.cells) ei sU ty97 slx2.1 (nthZ hget) (ba hget) U U U (fun qx Ax=>dz ty97 Ax U U (aV zc97 (fun b23=>aS 0 ty97 U U U U U U (aD ?_))))))))
 refine K5 (ι:=List Value×Nat×Obj×HF) (fun i=>[(2,.slice kg parties.length ke),(14,Q b14),(16,Q b16),(17,Q b17),(19,Q b19),(92,.slice xb xs.length xc),(93,I (xs.length:Int)),(94,I (i1:Int))]) (fun i=>i.2.2.2) (fun i=>[(b19,.cells (gD.cells w wr).toArray 196 (0,0)),(bc,.chan l.length i.1.toArray false i.2.1 (r+1) false),(bm,i.2.2.1)]++markB [dm])
  (fun i=>h10.le i.2.2.2∧sd i.2.2.2 i.1 (conPut ⟨w.path++[x.No],x.Party⟩ m2 q2).2∧iL (Value.int .i64) kW i.2.2.2 i.2.2.1 (conPut ⟨w.path++[x.No],x.Party⟩ m2 q2).1) ?_ (fun fin=>?_)
 ·rintro ⟨vs3,s3,om3,h11⟩ ⟨l11,hw3,hm3⟩ e3
  dsimp only at l11 hw3 hm3
  exact da (ay (aw (v':=I ((i1+1:Nat):Int)) U (bw ob) (qO 2 U (ag2 (i1+1,(conPut ⟨w.path++[x.No],x.Party⟩ m2 q2).1,(conPut ⟨w.path++[x.No],x.Party⟩ m2 q2).2,vs3,s3,om3,h11,rest) _ (Nat.lt_succ_self _) ⟨lQ hd1,hcs2,hw3,hm3,qY hg2 hpty (by simpa using hw7),HF.le_trans hle2 l11⟩ rd))))
 have hKs:∀ p∈([(b23,.cells (Interest.cells x).toArray 97 (0,0)),(b19,.cells (gD.cells w wr).toArray 196 (0,0))]:LH),p∈([(b23,.cells (Interest.cells x).toArray 97 (0,0)),(b19,.cells (gD.cells w wr).toArray 196 (0,0)),(bc,.chan l.length vs2.toArray false s2 (r+1) false),(bm,om2)]++markB [dm]:LH):=fun p hp=>by
  rcases List.mem_cons.1 hp with rfl | hp
  ·simp
  rw [List.mem_singleton.1 hp];simp
 have hJ:Jst h10 [(b23,.cells (Interest.cells x).toArray 97 (0,0)),(b19,.cells (gD.cells w wr).toArray 196 (0,0))] h10 ([(b23,.cells (Interest.cells x).toArray 97 (0,0)),(b19,.cells (gD.cells w wr).toArray 196 (0,0)),(bc,.chan l.length vs2.toArray false s2 (r+1) false),(bm,om2)]++markB [dm]):=⟨HF.le_refl _,hKs⟩
 refine eQ [(b23,.cells (Interest.cells x).toArray 97 (0,0)),(b19,.cells (gD.cells w wr).toArray 196 (0,0))] mixed kr hJ (fun hsep _=>?_)
 refine dX 0 hsep hJ U U kr U (fun _ _ hj=>eV ty197 ((a17.mono h910).mono hj.1) U) (dX 1 hsep hJ U U kr U (fun _ _ _=>jS KB U) (dX 2 hsep hJ U U kr U (fun _ _ hj=>fH ty31 U (hj.nth (i:=1) U) U) (dX 4 hsep hJ U U kr U (fun _ _ _=>jS Ly U) (dX 5 hsep hJ U U kr U (fun _ _ hj=>fH ty3 U (hj.nth (i:=0) U) U) (dX 8 hsep hJ U U kr U (fun _ _ _=>jS Lx U) (dX 9 hsep hJ U U kr U (fun _ _ hj=>fH ty3 U (hj.nth (i:=0) U) U) ?_))))))
 have hpl8:w.path.length≤wr.vZ:=hokp.2
 have hpn:=hokp.1.1
 refine mT 3 6 kr U U ?_ ?_
 ·refine eP (v:=.slice wr.ug w.path.length w.path.length) call115 (pH h10 wr.ug w.path.length wr.vZ hpl8) U ⟨hJ,tn 6 U (bV (cells:=[I x.No]) fa ty3 zc3 U U kr (fun b6=>⟨⟨HF.le_refl _,fun p hp=>List.mem_cons_of_mem _ (hKs p hp)⟩,tn 7 U (Dc (R:=Rp.int) (xs:=w.path) (ys:=[x.No]) fa ty3 zc3 U bytes3 (vS hokp.1) U U (fI 0 U (show bu Rp.int h10 [I x.No] [x.No] from ⟨[I x.No],[],U,U,U,U⟩)) (by simp) lo lo (fun nb nc NG hNG=>⟨⟨HF.le_refl _,fun p hp=>List.mem_append_right NG (List.mem_cons_of_mem _ (hKs p hp))⟩,tn 10 U (fw (cells:=gD.cells ⟨w.path++[x.No],x.Party⟩ ⟨nb,nc⟩) (places:=[(0,1),(1,1)]) underlying196 zc196 kr kr ⟨⟨HF.le_refl _,fun p hp=>List.mem_append_right NG (List.mem_cons_of_mem _ (hKs p hp))⟩,tn 11 U (Da Rp.aY [] NG ((b6,.cells [Value.int .i64 x.No].toArray 3 (0,0))::[(b23,.cells (Interest.cells x).toArray 97 (0,0)),(b19,.cells (gD.cells w wr).toArray 196 (0,0)),(bc,.chan l.length vs2.toArray false s2 (r+1) false),(bm,om2)]++markB [dm]) U hM hNG (fun h11 l11 slN=>?_))⟩)⟩))⟩))⟩
  refine DR (vs:=[.agg (gD.cells ⟨w.path++[x.No],x.Party⟩ ⟨nb,nc⟩).toArray]) [(bm,om2),(bc,.chan l.length vs2.toArray false s2 (r+1) false)] ([(b6,.cells [Value.int .i64 x.No].toArray 3 (0,0)),(b23,.cells (Interest.cells x).toArray 97 (0,0)),(b19,.cells (gD.cells w wr).toArray 196 (0,0))]++markB [dm]) ?_
   (kQ h11 ⟨w.path++[x.No],x.Party⟩ ⟨nb,nc⟩ ⟨b15,0,none⟩ ⟨b16,0,none⟩ bm bc om2 m2 l.length s2 (r+1) vs2 q2 ⟨slN⟩ (a15.mono (h910.t l11)) (a16.mono (h910.t l11)) (hm2.mono kW.mono l11) (hw2.mono l11) (fun hno=>by rw [hw2.len];exact uD hg2 hm2.nodup hpty hstl hno)) rfl rfl (fun B hB=>?_)
  ·exact uO [(b6,.cells [Value.int .i64 x.No].toArray 3 (0,0)),(b23,.cells (Interest.cells x).toArray 97 (0,0)),(b19,.cells (gD.cells w wr).toArray 196 (0,0))] (markB [dm]) (bc,.chan l.length vs2.toArray false s2 (r+1) false) (bm,om2)
  obtain ⟨om3,vs3,s3,hm3,hw3,rfl⟩:=hB
  exact ⟨⟨l11,fun p hp=>by rcases hp with _ | ⟨_,_ | ⟨_,h⟩⟩;simp;simp;cases h⟩,mD (K2:=[(b23,.cells (Interest.cells x).toArray 97 (0,0)),(b19,.cells (gD.cells w wr).toArray 196 (0,0))]) l11 (fun _ hp=>hp) (aW kr (mp (uO [(b6,.cells [Value.int .i64 x.No].toArray 3 (0,0)),(b23,.cells (Interest.cells x).toArray 97 (0,0)),(b19,.cells (gD.cells w wr).toArray 196 (0,0))] (markB [dm]) (bc,.chan l.length vs3.toArray false s3 (r+1) false) (bm,om3)).symm (bB (L':=[(b19,.cells (gD.cells w wr).toArray 196 (0,0)),(bc,.chan l.length vs3.toArray false s3 (r+1) false),(bm,om3)]++markB [dm]) js (fin (vs3,s3,om3,h11) _ ⟨l11,hw3,hm3⟩ rd))))⟩
 refine bV (cells:=[I x.No]) fa ty3 zc3 U U kr (fun b6=>⟨⟨HF.le_refl _,fun p hp=>List.mem_cons_of_mem _ (hKs p hp)⟩,tn 3 U (eP (v:=.slice wr.ug w.path.length w.path.length) call115 (pH h10 wr.ug w.path.length wr.vZ hpl8) U ⟨⟨HF.le_refl _,fun p hp=>List.mem_cons_of_mem _ (hKs p hp)⟩,tn 7 U (Dc (R:=Rp.int) (xs:=w.path) (ys:=[x.No]) fa ty3 zc3 U bytes3 (vS hokp.1) U U (fI 0 U (show bu Rp.int h10 [I x.No] [x.No] from ⟨[I x.No],[],U,U,U,U⟩)) (by simp) lo lo (fun nb nc NG hNG=>⟨⟨HF.le_refl _,fun p hp=>List.mem_append_right NG (List.mem_cons_of_mem _ (hKs p hp))⟩,tn 10 U (fw (cells:=gD.cells ⟨w.path++[x.No],x.Party⟩ ⟨nb,nc⟩) (places:=[(0,1),(1,1)]) underlying196 zc196 kr kr ⟨⟨HF.le_refl _,fun p hp=>List.mem_append_right NG (List.mem_cons_of_mem _ (hKs p hp))⟩,tn 11 U (Da Rp.aY [] NG ((b6,.cells [Value.int .i64 x.No].toArray 3 (0,0))::[(b23,.cells (Interest.cells x).toArray 97 (0,0)),(b19,.cells (gD.cells w wr).toArray 196 (0,0)),(bc,.chan l.length vs2.toArray false s2 (r+1) false),(bm,om2)]++markB [dm]) U hM hNG (fun h11 l11 slN=>?_))⟩)⟩))⟩)⟩)
 refine DR (vs:=[.agg (gD.cells ⟨w.path++[x.No],x.Party⟩ ⟨nb,nc⟩).toArray]) [(bm,om2),(bc,.chan l.length vs2.toArray false s2 (r+1) false)] ([(b6,.cells [Value.int .i64 x.No].toArray 3 (0,0)),(b23,.cells (Interest.cells x).toArray 97 (0,0)),(b19,.cells (gD.cells w wr).toArray 196 (0,0))]++markB [dm]) ?_
  (kQ h11 ⟨w.path++[x.No],x.Party⟩ ⟨nb,nc⟩ ⟨b15,0,none⟩ ⟨b16,0,none⟩ bm bc om2 m2 l.length s2 (r+1) vs2 q2 ⟨slN⟩ (a15.mono (h910.t l11)) (a16.mono (h910.t l11)) (hm2.mono kW.mono l11) (hw2.mono l11) (fun hno=>by rw [hw2.len];exact uD hg2 hm2.nodup hpty hstl hno)) rfl rfl (fun B hB=>?_)
 ·exact uO [(b6,.cells [Value.int .i64 x.No].toArray 3 (0,0)),(b23,.cells (Interest.cells x).toArray 97 (0,0)),(b19,.cells (gD.cells w wr).toArray 196 (0,0))] (markB [dm]) (bc,.chan l.length vs2.toArray false s2 (r+1) false) (bm,om2)
 obtain ⟨om3,vs3,s3,hm3,hw3,rfl⟩:=hB
 exact ⟨⟨l11,fun p hp=>by rcases hp with _ | ⟨_,_ | ⟨_,h⟩⟩;simp;simp;cases h⟩,mD (K2:=[(b23,.cells (Interest.cells x).toArray 97 (0,0)),(b19,.cells (gD.cells w wr).toArray 196 (0,0))]) l11 (fun _ hp=>hp) (aW kr (mp (uO [(b6,.cells [Value.int .i64 x.No].toArray 3 (0,0)),(b23,.cells (Interest.cells x).toArray 97 (0,0)),(b19,.cells (gD.cells w wr).toArray 196 (0,0))] (markB [dm]) (bc,.chan l.length vs3.toArray false s3 (r+1) false) (bm,om3)).symm (bB (L':=[(b19,.cells (gD.cells w wr).toArray 196 (0,0)),(bc,.chan l.length vs3.toArray false s3 (r+1) false),(bm,om3)]++markB [dm]) js (fin (vs3,s3,om3,h11) _ ⟨l11,hw3,hm3⟩ rd))))⟩
theorem nR (h:HF) (c:bo) (kC:jv) (person:Int) (hc:bo.ok h c kC) (hsm:smR c.Register) (hco:iS c) (hpp:0≤person∧person < 64):Ret prog 256 [.agg (bo.cells c kC).toArray,I person] h (.bool (ib c person)):=by
 refine sT func256 U ntmps256 U fun X hM hX hF=>?_
 have hs0:ib c person=ib c person:=rfl
 refine sr (cA (fun b1=>qL 15 [0,0,0,0] U (aF (cY call31 (lH _ _ _ _ person _ _ _ c.at_ c.known hc.Register.Interests hc.doc.Parties hsm.2.2.2.1) U (fun v1 h1 hle1 hp1=>?_)))))
 obtain ⟨rb1,rc1,rfl,sl1⟩:=hp1
 exact aj (qO 10 U (aF (mK rI (gU h1 ((cC c.Register.Interests person c.doc.Parties c.at_ c.known).2.2)) (kJ (wv hco hpp)) U (qO 6 U (nretP [.bool ((cC c.Register.Interests person c.doc.Parties c.at_ c.known).2.1)] (cs hs0))))))
theorem tl (h:HF) (c:bo) (kC:jv) (c_q:Addr) (p:Policy) (fL:el) (p_q:Addr) (hc:bo.ok h c kC) (ac:At h c_q (bo.cells c kC)) (hp:Policy.ok h p fL) (ap:At h p_q (Policy.cells p fL)) (hsm:smR c.Register) (hco:iS c) (hpr:p.Rules.length=p.Kinds.length∧∀ y∈p.Rules,0≤y.Think∧y.Think≤1099511627775):Itr prog (.func (.func 255) #[] (List.toArray [.pointer (some c_q),.pointer (some p_q)])) nv (cB c p) h:=by
 refine pU call255 ?_
 intro yf ya yb C Sp Pn h1 A hle m1 m2 m3 hC hy
 refine iV GZ U ntmps255 U fun X hXM hX=>?_
 have hs0:cB c p=[]++cB c p:=rfl
 have hkd:=hco.kind
 refine aR (aR (ay (fX nC U (fX Ae U (kd (j:=9) ty3 (ac.mono hle) U U (fX LD U (kd (j:=1) ty58 (ap.mono hle) U U (Bf xQ U (Bg U (aD (?_)))))))))))
 refine jG U (fun c1=>?_) (fun c1=>?_)
 ·skip
  have c1p:=of_decide_eq_true c1
  have hs1:=hs0.trans (congrArg ([]++·) (bt c1))
  refine dY ?_
  have hs2:cB c p=[]:=hs1.trans (List.append_nil _)
  exact lq [] (A:=A) GZ U (List.Sublist.refl _) (.inl (hs2 ▸ hC))
 skip
 have c1p:=of_decide_eq_false c1
 have hs3:=hs0.trans (congrArg ([]++·) (bf c1))
 refine aJ (aR (?_))
 refine eQ ([]) mixed (by kernel_rfl) (fJ (List.nil_sublist _)) (fun dH _=>?_)
 refine dX 0 dH (fJ (List.nil_sublist _)) U U (by kernel_rfl) U (fun _ _ _=>jS xB U) (dX 1 dH (fJ (List.nil_sublist _)) U U (by kernel_rfl) U (fun _ _ _=>jS LG U) (dX 2 dH (fJ (List.nil_sublist _)) U U (by kernel_rfl) U (fun _ _ hj=>jK 6 ty28 ((ac.mono hle).mono hj.1) U U) (?_)))
 refine dX 3 dH (fJ (List.nil_sublist _)) U U (by kernel_rfl) U (fun _ _ _=>jS nC U) (dX 4 dH (fJ (List.nil_sublist _)) U U (by kernel_rfl) U (fun _ _ _=>jS HV U) (dX 5 dH (fJ (List.nil_sublist _)) U U (by kernel_rfl) U (fun _ _ hj=>jK 7 ty3 ((ac.mono hle).mono hj.1) U U) (?_)))
 refine dX 6 dH (fJ (List.nil_sublist _)) U U (by kernel_rfl) U (fun _ _ _=>jS nC U) (dX 7 dH (fJ (List.nil_sublist _)) U U (by kernel_rfl) U (fun _ _ _=>jS HU U) (dX 8 dH (fJ (List.nil_sublist _)) U U (by kernel_rfl) U (fun _ _ hj=>jK 8 ty3 ((ac.mono hle).mono hj.1) U U) (?_)))
 refine dX 9 dH (fJ (List.nil_sublist _)) U U (by kernel_rfl) U (fun _ _ _=>jS LC U) (dX 10 dH (fJ (List.nil_sublist _)) U U (by kernel_rfl) U (fun _ _ hj=>jK 3 ty59 ((ap.mono hle).mono hj.1) U U) (dX 11 dH (fJ (List.nil_sublist _)) U U (by kernel_rfl) U (fun _ _ _=>jS nC U) (?_)))
 refine dX 12 dH (fJ (List.nil_sublist _)) U U (by kernel_rfl) U (fun _ _ _=>jS Ae U) (dX 13 dH (fJ (List.nil_sublist _)) U U (by kernel_rfl) U (fun _ _ hj=>jK 9 ty3 ((ac.mono hle).mono hj.1) U U) (?_))
 have ho1:0≤(c.doc.Kind:Int)∧(c.doc.Kind:Int) < ((p.Rules).length:Int):=(by simp only [decide_eq_true_eq,decide_eq_false_iff_not,Bool.and_eq_true,Bool.or_eq_true,Bool.not_eq_true',Bool.not_eq_false',Bool.and_eq_false_iff,Bool.or_eq_false_iff,beq_iff_eq,beq_eq_false_iff_ne,bne_iff_ne,bne_eq_false_iff_eq,List.length_append,List.length_cons,List.length_nil,List.length_drop] at *;omega)
 refine ji 14 dH (fJ (List.nil_sublist _)) si ty79 (hp.Rules.mono Rule.ao hle).1 ho1 (dU ho1) U U U U (by kernel_rfl) (fun q1 cs1 A1 ln1 rr1=>?_)
 obtain ⟨r1,rfl,ok1⟩:=rr1
 refine dX 15 dH (fJ (List.nil_sublist _)) U U (by kernel_rfl) U (fun _ _ _=>jS LB U) (dX 16 dH (fJ (List.nil_sublist _)) U U (by kernel_rfl) U (fun _ _ hj=>jK 2 ty3 (A1.mono hj.1) U U) (dX 17 dH (fJ (List.nil_sublist _)) U U (by kernel_rfl) U (fun _ _ _=>jS xA U) (?_)))
 refine dX 18 dH (fJ (List.nil_sublist _)) U U (by kernel_rfl) U (fun _ _ hj=>jK 48 ty3 ((ac.mono hle).mono hj.1) U U) (dX 19 dH (fJ (List.nil_sublist _)) U U (by kernel_rfl) U (fun _ _ _=>jS xz U) (dX 20 dH (fJ (List.nil_sublist _)) U U (by kernel_rfl) U (fun _ _ hj=>jK 49 ty3 ((ac.mono hle).mono hj.1) U U) (?_)))
 refine mF 21 (by kernel_rfl) U (cY call28 (nX _ _ _ _ c.doc.No c.doc.At ((nthI p.Rules c.doc.Kind).Think) c.at_ c.known (hc.Register.Approvals.mono Approval.ao hle) hsm.2.2.2.2.2.2) U (fun v1 h2 hle1 hp1=>?_))
 obtain ⟨rb1,rc1,rfl,sl1⟩:=hp1
 refine ⟨⟨hle1,fun _ hp=>List.Sublist.subset (List.nil_sublist _) hp⟩,mD (K2:=[]) hle1 (fun _ hp=>hp) (dX 22 dH (fJ (List.nil_sublist _)) U U (by kernel_rfl) U (fun _ _ _=>jE) (dX 23 dH (fJ (List.nil_sublist _)) U U (by kernel_rfl) U (fun _ _ _=>uN U U) (?_)))⟩
 refine dX 24 dH (fJ (List.nil_sublist _)) U U (by kernel_rfl) U (fun _ _ _=>uN U U) (dX 25 dH (fJ (List.nil_sublist _)) U U (by kernel_rfl) U (fun _ _ _=>ua) (dX 26 dH (fJ (List.nil_sublist _)) U U (by kernel_rfl) U (fun _ _ _=>ua) (?_)))
 refine aW (by kernel_rfl) (?_)
 refine aR (ay (aj (aF (mK rI (gU h2 ((bH c.Register.Approvals c.doc.No c.doc.At ((nthI p.Rules c.doc.Kind).Think) c.at_ c.known).2)) (by first | exact kJ (qW hco hpr (by assumption)) | exact kJ (qV hco (gi hd1)) | exact kJ (qX hco (gi hd1))) U (?_)))))
 refine aD (aR (ay (aj (Bf tI U (aj (aD (?_)))))))
 refine lp2 ((bH c.Register.Approvals c.doc.No c.doc.At ((nthI p.Rules c.doc.Kind).Think) c.at_ c.known).1) (fun i w=>[(0,.func yf ya yb),(1,.pointer (some c_q)),(48,.slice rb1 (((bH c.Register.Approvals c.doc.No c.doc.At ((nthI p.Rules c.doc.Kind).Think) c.at_ c.known).1).length) rc1),(49,.int .i64 ((((bH c.Register.Approvals c.doc.No c.doc.At ((nthI p.Rules c.doc.Kind).Think) c.at_ c.known).1).length:Nat):Int)),(50,.int .i64 (i:Int))]) (fun w=>w.2.2) (fun w=>w.2.1) (fun i w=>C w.1 w.2.2 w.2.1∧HF.le h2 w.2.2) (fun s1 i w=>w.1++(cB.L1 c (cB.K1)) s1) ([],A,h2) sl1.1.1 hs3 ⟨(m1 _ _ _ _ hle1 hC),lf⟩ ?_ ?_
 ·skip
  rintro i1 ⟨dn1,A1_,hh1⟩ fA hs4 ⟨hC1_,hl1⟩ e
  try dsimp only at hC1_
  try dsimp only at hl1
  show TT _ _ _ _ _ (upds e [(0,.func yf ya yb),(1,.pointer (some c_q)),(48,.slice rb1 (((bH c.Register.Approvals c.doc.No c.doc.At ((nthI p.Rules c.doc.Kind).Think) c.at_ c.known).1).length) rc1),(49,.int .i64 ((((bH c.Register.Approvals c.doc.No c.doc.At ((nthI p.Rules c.doc.Kind).Think) c.at_ c.known).1).length:Nat):Int)),(50,.int .i64 (i1:Int))]) _ _ hh1 (A1_)
  refine dY ?_
  have hs5:cB c p=dn1:=hs4.trans (List.append_nil _)
  exact pV [] (A:=A1_) GZ U (List.Sublist.refl _) (.inl (hs5 ▸ hC1_))
 skip
 rintro i1 ⟨dn1,A1_,hh1⟩ y1 rz1 hd1 dx aL eH hO hs6 ⟨hC1_,hl1⟩ hx1 ag1 e
 try dsimp only at hC1_
 try dsimp only at hl1
 show TT _ _ _ _ _ (upds e [(0,.func yf ya yb),(1,.pointer (some c_q)),(48,.slice rb1 (((bH c.Register.Approvals c.doc.No c.doc.At ((nthI p.Rules c.doc.Kind).Think) c.at_ c.known).1).length) rc1),(49,.int .i64 ((((bH c.Register.Approvals c.doc.No c.doc.At ((nthI p.Rules c.doc.Kind).Think) c.at_ c.known).1).length:Nat):Int)),(50,.int .i64 (i1:Int))]) _ _ hh1 (A1_)
 refine aR (ay (aw (v':=.bool true) U (congrArg Value.bool dx) (aD (aR (iq U (aJ (aR (ie (aR (ay (aF (fj (enc:=Approval.cells) (fun _ _ _ e=>e) tI ty81 (sl1.mono Approval.ao hl1).1 (nthZ aL) (ba aL) U U U (fun q3 A3=>?_)))))))))))))
 refine dz ty81 A3 U U (aV zc81 (fun b2=>aS 0 ty81 U U U U U U (iw (L':=[(b2,Obj.cells (Approval.cells y1).toArray 81 (0,0))]++(A1_)) U (aD (aR (ay (fX xB U (fX LM U (dF ty22 (ac.mono (HF.le_trans (HF.le_trans hle hle1) hl1)) U (?_))))))))))
 refine fX HR U (kl 0 ty3 U U U (fX Ad U (kl 0 ty3 U U U (fX xA U (kd (j:=48) ty3 (ac.mono (HF.le_trans (HF.le_trans hle hle1) hl1)) U U (fX xz U (kd (j:=49) ty3 (ac.mono (HF.le_trans (HF.le_trans hle hle1) hl1)) U U (?_))))))))
 refine av call29 (rP _ _ _ _ y1.Office y1.For c.at_ c.known (hc.Register.Appoints.mono Appoint.ao (HF.le_trans (HF.le_trans hle hle1) hl1))) U (aj (fM U U (fM U U (fM U U (fM U U (cK (?_)))))))
 refine cK (cK (cK (aD (aR (ay (aj (aF (mK rI (gU hh1 ((fe c.Register.Appoints y1.Office y1.For c.at_ c.known).2.2.2)) (by first | exact kJ (qW hco hpr (by assumption)) | exact kJ (qV hco (gi hd1)) | exact kJ (qX hco (gi hd1))) U (?_)))))))))
 refine aD (aR (ay (fX xB U (fX LK U (kd (j:=1) ty23 (ac.mono (HF.le_trans (HF.le_trans hle hle1) hl1)) U U (fX Ad U (kl 0 ty3 U U U (fX HS U (kl 0 ty3 U U U (fX HR U (kl 0 ty3 U U U (?_))))))))))))
 refine fX nC U (fX Ae U (kd (j:=9) ty3 (ac.mono (HF.le_trans (HF.le_trans hle hle1) hl1)) U U (fX nC U (fX HT U (kd (j:=10) ty3 (ac.mono (HF.le_trans (HF.le_trans hle hle1) hl1)) U U (fX xA U (kd (j:=48) ty3 (ac.mono (HF.le_trans (HF.le_trans hle hle1) hl1)) U U (?_))))))))
 refine fX xz U (kd (j:=49) ty3 (ac.mono (HF.le_trans (HF.le_trans hle hle1) hl1)) U U (aF (cY call30 (qU _ _ _ _ y1.For y1.By y1.Office c.doc.Kind c.doc.Value c.at_ c.known (hc.Register.Deputies.mono Deputy.ao (HF.le_trans (HF.le_trans hle hle1) hl1)) hsm.2.2.1) U (fun v3 h4 hle3 hp3=>?_))))
 obtain ⟨rb3,rc3,rfl,sl3⟩:=hp3
 refine aj (fM U U (fM U U (fM U U (cK (cK (cK (aD (aR (ay (aj (aF (mK rI (gU h4 ((aE c.Register.Deputies y1.For y1.By y1.Office c.doc.Kind c.doc.Value c.at_ c.known).2.2)) (by first | exact kJ (qW hco hpr (by assumption)) | exact kJ (qV hco (gi hd1)) | exact kJ (qX hco (gi hd1))) U (?_)))))))))))))
 refine aD (aR (ay (aj (aj (?_)))))
 refine bC 2 [100,101,102] 100 102 ((aE c.Register.Deputies y1.For y1.By y1.Office c.doc.Kind c.doc.Value c.at_ c.known).2.1) U (fun c2 hk1=>?_) (fun e=>?_)
 ·skip
  refine aj (ek U (?_))
  exact hk1 _ U
 refine aj (?_)
 refine bC 6 [103,104,105,106,107,108,109] 103 109 (!(ib c y1.For)) U (fun c3 hk2=>?_) (fun e=>?_)
 ·skip
  refine dz ty123 (ac.mono (HF.le_trans (HF.le_trans (HF.le_trans hle hle1) hl1) hle3)) U U (fX Ad U (kl 0 ty3 U U U (av call256 (nR _ _ _ y1.For (hc.mono (HF.le_trans (HF.le_trans (HF.le_trans hle hle1) hl1) hle3)) hsm (by first | assumption | (simp only [] ;assumption) | omega | (simp only [decide_eq_true_eq,decide_eq_false_iff_not,Bool.and_eq_true,Bool.or_eq_true,Bool.not_eq_true',Bool.not_eq_false',Bool.and_eq_false_iff,Bool.or_eq_false_iff,beq_iff_eq,beq_eq_false_iff_ne,bne_iff_ne,bne_eq_false_iff_eq,List.length_append,List.length_cons,List.length_nil,List.length_drop] at *;omega)) (by first | exact yA hco (gi hd1) | exact Cb hco (gi hd1))) U (?_))))
  refine kz U (ek U (?_))
  exact hk2 _ U
 refine aj (?_)
 refine bC 6 [110,111,112,113,114,115,116] 110 116 (!(ib c y1.By)) U (fun c4 hk3=>?_) (fun e=>?_)
 ·skip
  refine dz ty123 (ac.mono (HF.le_trans (HF.le_trans (HF.le_trans hle hle1) hl1) hle3)) U U (fX HS U (kl 0 ty3 U U U (av call256 (nR _ _ _ y1.By (hc.mono (HF.le_trans (HF.le_trans (HF.le_trans hle hle1) hl1) hle3)) hsm (by first | assumption | (simp only [] ;assumption) | omega | (simp only [decide_eq_true_eq,decide_eq_false_iff_not,Bool.and_eq_true,Bool.or_eq_true,Bool.not_eq_true',Bool.not_eq_false',Bool.and_eq_false_iff,Bool.or_eq_false_iff,beq_iff_eq,beq_eq_false_iff_ne,bne_iff_ne,bne_eq_false_iff_eq,List.length_append,List.length_cons,List.length_nil,List.length_drop] at *;omega)) (by first | exact yA hco (gi hd1) | exact Cb hco (gi hd1))) U (?_))))
  refine kz U (ek U (?_))
  exact hk3 _ U
 refine aj (?_)
 refine rJ 117 U (fun c5=>?_) (fun c5=>?_)
 ·skip
  have hs7:=hs6.trans (congrArg (dn1++·) (bt c5))
  refine aj (cW 0 ty81 U U U (?_))
  have hx1:cB c p=dn1++(y1::(cB.L1 c (cB.K1) rz1)):=hs7
  refine aF (jW ([(b2,Obj.cells (Approval.cells y1).toArray 81 (0,0))]) A1_ (show [(b2,Obj.cells (Approval.cells y1).toArray 81 (0,0))]++(A1_)=[(b2,Obj.cells (Approval.cells y1).toArray 81 (0,0))]++A1_ from by first | rfl | simp only [List.append_assoc,List.cons_append,List.nil_append,List.append_nil]) (hy dn1 y1 _ _ _ _ hx1 (HF.le_trans (HF.le_trans hle1 hl1) hle3) (m1 _ _ _ _ hle3 hC1_) U) U U (fun h5 A4 hle4 hC1=>?_) (fun h6 A5 hle5 hS1=>?_) (fun ch1 h7 A6 hle6 hP1 e=>gp (lG [] (A:=A6) GZ (List.sublist_append_right _ _) hP1)))
  ·skip
   have hs8:cB c p=(dn1++[y1])++((cB.L1 c (cB.K1) rz1)):=hx1.trans (by simp only [List.append_assoc,List.cons_append,List.nil_append])
   refine kz U (ek U (aD (kL U (aJ (da (ay (aw (v':=.int .i64 (((i1+1):Nat):Int)) U (bw (by omega)) (aj (aD (?_))))))))))
   refine bB (L':=A4) (.cons _ (List.Sublist.refl _)) ?_
   exact ag1 ((dn1++[y1]),A4,h5) hs8 ⟨hC1,(HF.le_trans (HF.le_trans hl1 hle3) hle4)⟩
  skip
  refine kz U (ek U (aD (iq U (?_))))
  refine dY ?_
  exact lq [] (A:=A5) GZ U (.cons _ (List.Sublist.refl _)) (.inr hS1)
 skip
 have hs9:=hs6.trans (congrArg (dn1++·) (bf c5))
 refine ui (ui (ui (ui (ek U (aD (kL U (aJ (da (ay (aw (v':=.int .i64 (((i1+1):Nat):Int)) U (bw (by omega)) (aj (aD (?_)))))))))))))
 refine bB (L':=A1_) (.cons _ (List.Sublist.refl _)) ?_
 exact ag1 (dn1,A1_,h4) hs9 ⟨(m1 _ _ _ _ hle3 hC1_),(HF.le_trans hl1 hle3)⟩
theorem vq (h:HF) (c:bo) (kC:jv) (p:Policy) (fL:el) (hc:bo.ok h c kC) (hp:Policy.ok h p fL) (hsm:smR c.Register) (hco:iS c) (hpr:p.Rules.length=p.Kinds.length∧∀ y∈p.Rules,0≤y.Think∧y.Think≤1099511627775):jN prog 162 [.agg (bo.cells c kC).toArray,.agg (Policy.cells p fL).toArray] h (fun v h'=>∃ (rv0:Value),v=rv0∧Itr prog rv0 nv (eU c p) h'):=by
 refine sT func162 U ntmps162 U fun X hM hX hF=>?_
 have hs0:eU c p=eU c p:=rfl
 refine sr (cA (fun b1=>cA (fun b2=>qO 4 U (aT 1 U hM (fun h1 hle1 hb1=>aT 0 U hM (fun h2 hle2 hb2=>aF (et U U (an ?_))))))))
 have hs1:eU c p=(cB c p):=hs0
 exact nretH [.func (.func 255) #[] #[Q b1,Q b2]] ⟨(.func (.func 255) #[] #[Q b1,Q b2]),congrArg (fun r:List Approval=>((.func (.func 255) #[] #[Q b1,Q b2]):Value)) hs1.symm,(by rw [hs1];exact (tl h2 c kC ⟨b1,0,none⟩ p fL ⟨b2,0,none⟩ (hc.mono (hle1.t hle2)) ((ct hb1).mono hle2) (hp.mono (hle1.t hle2)) (ct hb2) ob ob ob))⟩
theorem nQ (h:HF) (c:bo) (kC:jv) (p:Policy) (fL:el) (hc:bo.ok h c kC) (hp:Policy.ok h p fL) (hsm:smR c.Register) (hco:iS c) (hpr:p.Rules.length=p.Kinds.length∧∀ y∈p.Rules,0≤y.Think∧y.Think≤1099511627775):jN prog 79 [.agg (bo.cells c kC).toArray,.agg (Policy.cells p fL).toArray] h (fun v h'=>∃ (rb0:Option Addr) (rc0:Nat),v=.slice rb0 (cS c p).length rc0∧SlC Rp.int h' rb0 rc0 (cS c p)):=by
 refine cz func79 U ntmps79 U fun X hM hX=>?_
 have hs0:cS c p=cS c p:=rfl
 refine aR (ay (cA (fun b1=>cA (fun b2=>aV zc31 (fun b3=>aD (aR (aR (ay (cW 2 ty123 U U U (cW 1 ty64 U U U (aF (cY call162 (vq _ _ _ _ _ hc hp (by first | assumption | (simp only [] ;assumption) | omega | (simp only [decide_eq_true_eq,decide_eq_false_iff_not,Bool.and_eq_true,Bool.or_eq_true,Bool.not_eq_true',Bool.not_eq_false',Bool.and_eq_false_iff,Bool.or_eq_false_iff,beq_iff_eq,beq_eq_false_iff_ne,bne_iff_ne,bne_eq_false_iff_eq,List.length_append,List.length_cons,List.length_nil,List.length_drop] at *;omega)) (by first | assumption | (simp only [] ;assumption) | omega | (simp only [decide_eq_true_eq,decide_eq_false_iff_not,Bool.and_eq_true,Bool.or_eq_true,Bool.not_eq_true',Bool.not_eq_false',Bool.and_eq_false_iff,Bool.or_eq_false_iff,beq_iff_eq,beq_eq_false_iff_ne,bne_iff_ne,bne_eq_false_iff_eq,List.length_append,List.length_cons,List.length_nil,List.length_drop] at *;omega)) (by first | assumption | (simp only [] ;assumption) | omega | (simp only [decide_eq_true_eq,decide_eq_false_iff_not,Bool.and_eq_true,Bool.or_eq_true,Bool.not_eq_true',Bool.not_eq_false',Bool.and_eq_false_iff,Bool.or_eq_false_iff,beq_iff_eq,beq_eq_false_iff_ne,bne_iff_ne,bne_eq_false_iff_eq,List.length_append,List.length_cons,List.length_nil,List.length_drop] at *;omega))) U (fun v1 h1 hle1 hp1=>?_)))))))))))))
 obtain ⟨_,rfl,mo1⟩:=hp1
 refine aD (ie (?_))
 refine dY ?_
 refine cu (L':=([(b3,Obj.cells (List.toArray [.slice none 0 0]) 31 (0,0)),(b2,Obj.cells (Policy.cells p fL).toArray 64 (0,0)),(b1,Obj.cells (bo.cells c kC).toArray 123 (0,0))])++markB []) (by first | rfl | simp only [List.append_assoc,List.cons_append,List.nil_append,List.append_nil]) ?_
 refine jw (it:=v1) (xs:=(eU c p)) (ι:=(List Int)×Option Addr×Nat×LH×HF) [] (fun i=>i.2.2.2.2) (fun i=>[(b3,Obj.cells (List.toArray [.slice i.2.1 i.1.length i.2.2.1]) 31 (0,0)),(b2,Obj.cells (Policy.cells p fL).toArray 64 (0,0)),(b1,Obj.cells (bo.cells c kC).toArray 123 (0,0))]++(i.2.2.2.1)) (fun s i=>cS c p=((cS.L1 (cS.K1)) s i.1)∧em Rp.int 3 i.2.2.2.2 i.1 i.2.1 i.2.2.1 i.2.2.2.1∧HF.le h1 i.2.2.2.2∧i.1.length+s.length≤2000000) (fun _=>False) (fun _=>False) 0 (fun _ _ _=>False) ([],none,0,[],h1) func79 U mo1 U n9 (fun _ _ _ _ _ hq=>hq) U (show [(b3,Obj.cells (List.toArray [.slice none 0 0]) 31 (0,0)),(b2,Obj.cells (Policy.cells p fL).toArray 64 (0,0)),(b1,Obj.cells (bo.cells c kC).toArray 123 (0,0))]=_ from U) ⟨hs0,em.nil,lf,(by have hc:=Kk hsm p;simpa using hc)⟩ ?_ ?_ ?_ ?_ ?_
 ·skip
  rintro l1 dm1 lp1 y1 rz1 vs1 ⟨bJ,fS,fR,jc,hh1⟩ hr1 X hFR1 ⟨hs1,lB,hl1,u1_0⟩ hl01 hlr1 hv1 hX hXM hlp1 nx1 rt1 ex1 pn1
  try dsimp only at lB
  try dsimp only at hl1
  try dsimp only at u1_0
  try dsimp only at hlr1
  obtain rfl:=hv1
  simp only [List.length_cons] at u1_0
  refine cu (L':=[(l1,.loop lp1),(dm1,.deferred (some [])),(b3,Obj.cells (List.toArray [.slice fS bJ.length fR]) 31 (0,0)),(b2,Obj.cells (Policy.cells p fL).toArray 64 (0,0)),(b1,Obj.cells (bo.cells c kC).toArray 123 (0,0))]++(jc++(markB []))) (by first | rfl | simp only [List.append_assoc,List.cons_append,List.nil_append,List.append_nil]) ?_
  refine ay (aV zc81 (fun b6=>aS 0 ty81 U U U U U U (iw (L':=[(b6,Obj.cells (Approval.cells y1).toArray 81 (0,0)),(l1,.loop lp1),(dm1,.deferred (some [])),(b3,Obj.cells (List.toArray [.slice fS bJ.length fR]) 31 (0,0)),(b2,Obj.cells (Policy.cells p fL).toArray 64 (0,0)),(b1,Obj.cells (bo.cells c kC).toArray 123 (0,0))]++(jc++(markB []))) U (?_))))
  refine aD (jh 1 U hlp1 (ie (ay (kl 3 ty31 U U U (fX Ad U (kl 0 ty3 U U U (aF (bV (cells:=[.int .i64 y1.For]) fa ty3 zc3 U U (by kernel_rfl) (fun b7=>aF (eR Rp.kR ([(b7,Obj.cells (List.toArray [.int .i64 y1.For]) 3 (0,0)),(b6,Obj.cells (Approval.cells y1).toArray 81 (0,0)),(l1,.loop { lp1 with state:=.busy }),(dm1,.deferred (some [])),(b3,Obj.cells (List.toArray [.slice fS bJ.length fR]) 31 (0,0)),(b2,Obj.cells (Policy.cells p fL).toArray 64 (0,0)),(b1,Obj.cells (bo.cells c kC).toArray 123 (0,0))]) (markB []) (fun G=>[(b7,Obj.cells (List.toArray [.int .i64 y1.For]) 3 (0,0)),(b6,Obj.cells (Approval.cells y1).toArray 81 (0,0)),(l1,.loop { lp1 with state:=.busy }),(dm1,.deferred (some [])),(b3,Obj.cells (List.toArray [.slice fS bJ.length fR]) 31 (0,0)),(b2,Obj.cells (Policy.cells p fL).toArray 64 (0,0)),(b1,Obj.cells (bo.cells c kC).toArray 123 (0,0))]++(markB []++G)) (show [(b7,Obj.cells (List.toArray [.int .i64 y1.For]) 3 (0,0)),(b6,Obj.cells (Approval.cells y1).toArray 81 (0,0)),(l1,.loop { lp1 with state:=.busy }),(dm1,.deferred (some [])),(b3,Obj.cells (List.toArray [.slice fS bJ.length fR]) 31 (0,0)),(b2,Obj.cells (Policy.cells p fL).toArray 64 (0,0)),(b1,Obj.cells (bo.cells c kC).toArray 123 (0,0))]++(jc++(markB []))=[(b7,Obj.cells (List.toArray [.int .i64 y1.For]) 3 (0,0)),(b6,Obj.cells (Approval.cells y1).toArray 81 (0,0)),(l1,.loop { lp1 with state:=.busy }),(dm1,.deferred (some [])),(b3,Obj.cells (List.toArray [.slice fS bJ.length fR]) 31 (0,0)),(b2,Obj.cells (Policy.cells p fL).toArray 64 (0,0)),(b1,Obj.cells (bo.cells c kC).toArray 123 (0,0))]++(jc++(markB [])) from by first | rfl | simp only [List.append_assoc,List.cons_append,List.nil_append,List.append_nil]) (fun _=>by first | rfl | simp only [List.append_assoc,List.cons_append,List.nil_append,List.append_nil]) fa ty3 zc3 U bytes3 (lB.mono Rp.aY hlr1) U U (fI 0 U (show bu Rp.int hr1 [.int .i64 y1.For] ([y1.For]) from ⟨[.int .i64 y1.For],[],U,U,U,U⟩)) (by simp only [List.length_append,List.length_cons,List.length_nil,List.length_take,List.length_drop];omega) (by simp only [List.length_append,List.length_cons,List.length_nil,List.length_take,List.length_drop];omega) (fun ob2 oc2 G4 gr4=>?_)))))))))))
  refine uI (py ([(b7,Obj.cells (List.toArray [.int .i64 y1.For]) 3 (0,0)),(b6,Obj.cells (Approval.cells y1).toArray 81 (0,0)),(l1,.loop { lp1 with state:=.busy }),(dm1,.deferred (some [])),(b3,Obj.cells (List.toArray [.slice fS bJ.length fR]) 31 (0,0)),(b2,Obj.cells (Policy.cells p fL).toArray 64 (0,0)),(b1,Obj.cells (bo.cells c kC).toArray 123 (0,0))]) G4 (markB [])) (?_)
  refine cJ 4 ty31 U U U U U U (aD (da (?_)))
  refine bB (L':=[(l1,.loop { lp1 with state:=.busy }),(dm1,.deferred (some [])),(b3,Obj.cells (List.toArray [.slice ob2 ((bJ++[y1.For]).length) oc2]) 31 (0,0)),(b2,Obj.cells (Policy.cells p fL).toArray 64 (0,0)),(b1,Obj.cells (bo.cells c kC).toArray 123 (0,0))]++(G4++(markB []))) (.cons _ (.cons _ (.cons_cons _ (.cons_cons _ (.cons_cons _ (.cons_cons _ (.cons_cons _ (List.Sublist.refl _)))))))) ?_
  refine cu (L':=rdH l1 dm1 lp1 (([(b3,Obj.cells (List.toArray [.slice ob2 ((bJ++[y1.For]).length) oc2]) 31 (0,0)),(b2,Obj.cells (Policy.cells p fL).toArray 64 (0,0)),(b1,Obj.cells (bo.cells c kC).toArray 123 (0,0))]++G4)++markB [])) (by first | rfl | simp only [List.append_assoc,List.cons_append,List.nil_append,List.append_nil]) ?_
  exact nx1 ((bJ++[y1.For]),ob2,oc2,G4,hr1) _ _ ⟨hs1,gr4,(HF.le_trans hl1 hlr1),(by first | omega | (simp only [List.length_append,List.length_cons,List.length_nil] at *;omega))⟩ lf
 ·skip
  rintro dm1 ⟨bJ,fS,fR,jc,hh1⟩ hn1 ⟨hs2,lB,hl1,u1_0⟩ hln1 hl01
  try dsimp only at lB
  try dsimp only at hl1
  try dsimp only at u1_0
  try dsimp only at hln1
  refine cu (L':=[(b3,Obj.cells (List.toArray [.slice fS bJ.length fR]) 31 (0,0)),(b2,Obj.cells (Policy.cells p fL).toArray 64 (0,0)),(b1,Obj.cells (bo.cells c kC).toArray 123 (0,0))]++(jc++(markB (dm1::[])))) (by first | rfl | simp only [List.append_assoc,List.cons_append,List.nil_append,List.append_nil]) ?_
  refine da (aR (ay (kl 0 ty31 U U U (aF (lV ([(b3,Obj.cells (List.toArray [.slice fS bJ.length fR]) 31 (0,0)),(b2,Obj.cells (Policy.cells p fL).toArray 64 (0,0)),(b1,Obj.cells (bo.cells c kC).toArray 123 (0,0))]) jc (markB (dm1::[])) I9 (lh hn1 bJ fS fR jc (lB.mono Rp.aY hln1) (by first | assumption | omega | (simp only [List.length_append,List.length_cons,List.length_nil] ;omega))) (show [(b3,Obj.cells (List.toArray [.slice fS bJ.length fR]) 31 (0,0)),(b2,Obj.cells (Policy.cells p fL).toArray 64 (0,0)),(b1,Obj.cells (bo.cells c kC).toArray 123 (0,0))]++(jc++(markB (dm1::[])))=[(b3,Obj.cells (List.toArray [.slice fS bJ.length fR]) 31 (0,0)),(b2,Obj.cells (Policy.cells p fL).toArray 64 (0,0)),(b1,Obj.cells (bo.cells c kC).toArray 123 (0,0))]++(jc++(markB (dm1::[]))) from by first | rfl | simp only [List.append_assoc,List.cons_append,List.nil_append,List.append_nil]) U (fun G5 gr5=>?_))))))
  refine aD (aR (ay (kl 0 ty31 U U U (aF (lV (v:=.slice fS (slices_Compact_int (sortI bJ)).length fR) ([(b3,Obj.cells (List.toArray [.slice fS bJ.length fR]) 31 (0,0)),(b2,Obj.cells (Policy.cells p fL).toArray 64 (0,0)),(b1,Obj.cells (bo.cells c kC).toArray 123 (0,0))]) G5 (markB (dm1::[])) call136 (nO hn1 (sortI bJ) fS fR G5 gr5) (show [(b3,Obj.cells (List.toArray [.slice fS bJ.length fR]) 31 (0,0)),(b2,Obj.cells (Policy.cells p fL).toArray 64 (0,0)),(b1,Obj.cells (bo.cells c kC).toArray 123 (0,0))]++(G5++(markB (dm1::[])))=[(b3,Obj.cells (List.toArray [.slice fS bJ.length fR]) 31 (0,0)),(b2,Obj.cells (Policy.cells p fL).toArray 64 (0,0)),(b1,Obj.cells (bo.cells c kC).toArray 123 (0,0))]++(G5++(markB (dm1::[]))) from by first | rfl | simp only [List.append_assoc,List.cons_append,List.nil_append,List.append_nil]) (by first | rfl | (simp only [ir];rfl)) (fun G6 gr6=>?_))))))
  refine iw (L':=[(b3,Obj.cells (List.toArray [.slice fS bJ.length fR]) 31 (0,0)),(b2,Obj.cells (Policy.cells p fL).toArray 64 (0,0)),(b1,Obj.cells (bo.cells c kC).toArray 123 (0,0))]++(G6++(markB (dm1::[])))) (by first | rfl | simp only [List.append_assoc,List.cons_append,List.nil_append,List.append_nil]) (?_)
  refine cJ 0 ty31 U U U U U U (aD (?_))
  refine gL Rp.aY ([(b3,Obj.cells (List.toArray [.slice fS ((slices_Compact_int (sortI bJ)).length) fR]) 31 (0,0)),(b2,Obj.cells (Policy.cells p fL).toArray 64 (0,0)),(b1,Obj.cells (bo.cells c kC).toArray 123 (0,0))]) G6 (markB (dm1::[])) (show [(b3,Obj.cells (List.toArray [.slice fS ((slices_Compact_int (sortI bJ)).length) fR]) 31 (0,0)),(b2,Obj.cells (Policy.cells p fL).toArray 64 (0,0)),(b1,Obj.cells (bo.cells c kC).toArray 123 (0,0))]++(G6++(markB (dm1::[])))=[(b3,Obj.cells (List.toArray [.slice fS ((slices_Compact_int (sortI bJ)).length) fR]) 31 (0,0)),(b2,Obj.cells (Policy.cells p fL).toArray 64 (0,0)),(b1,Obj.cells (bo.cells c kC).toArray 123 (0,0))]++(G6++(markB (dm1::[]))) from by first | rfl | simp only [List.append_assoc,List.cons_append,List.nil_append,List.append_nil]) hM gr6 (fun h3 hle3 sl2=>?_)
  have hs3:cS c p=(slices_Compact_int (sortI bJ)):=hs2
  refine cu (L':=([(b3,Obj.cells (List.toArray [.slice fS ((slices_Compact_int (sortI bJ)).length) fR]) 31 (0,0)),(b2,Obj.cells (Policy.cells p fL).toArray 64 (0,0)),(b1,Obj.cells (bo.cells c kC).toArray 123 (0,0))])++markB (dm1::[])) (by first | rfl | simp only [List.append_assoc,List.cons_append,List.nil_append,List.append_nil]) ?_
  exact oq (dm1::[]) [.slice fS ((slices_Compact_int (sortI bJ)).length) fR] func79 U ⟨⟨0,_,_,_,_,U,U,.inr ⟨_,ty31,U⟩⟩,trivial⟩ ⟨fS,fR,congrArg (fun r:List Int=>(.slice fS r.length fR:Value)) hs3.symm,(by rw [hs3];exact sl2)⟩
 ·skip
  exact xf
 ·skip
  exact xf
 skip
 exact xf
theorem pd (h:HF) (s:List Version) (pL:Option Addr) (pK:Nat) (f:(Version→Bool)) (f_v:Value) (hs:SlC Version.rp h pL pK s) (hf:∀ (h':HF) (dB:Version) (vw:nJ),HF.le h h'→Version.ok h' dB vw→rH prog f_v [.agg (Version.cells dB vw).toArray] h' [] (.bool (f dB))):Ret prog 163 [.slice pL s.length pK,f_v] h (I (aN s f)):=by
 refine sT func163 U ntmps163 U fun X hM hX hF=>?_
 have hs0:aN s f=aN s f:=rfl
 refine qK 11 [] U ?_
 refine lp0 s (fun i=>[(0,.slice pL s.length pK),(1,f_v),(7,I (s.length:Int)),(8,I (i:Int))]) ([]) (fun s1 i=>(aN.L1 f (aN.K1)) s1 i) hs.1.1 hs0 ?_ ?_
 ·rintro i1 fA hs1 e
  exact sr (an (nretP [I (-1)] (ci hs1)))
 rintro i1 y1 rz1 hd1 dx aL eH hO hs3 hx1 ag1 e
 refine sr (aw (v':=.bool true) U (cb dx) (qO 16 U (aF (gC vf ty105 hs.1 (nthZ aL) (ba aL) U U U (fun _ _ _ e=>e) (fun q2 r2 A2 ok2=>dz ty105 A2 U U (aF (kH (v:=.bool (f y1)) [] (List.nil_sublist _) (hf h y1 r2 lf ok2) U U (aD (ai hs3 U (fun c2 hs4=>?_) (fun c2 hs5=>?_))))))))))
 ·exact sr (qO 3 U (nretP [I (i1:Int)] (ci hs4)))
 exact aJ (qT 2 U (aw (v':=I (((i1+1):Nat):Int)) U (bw ob) (qO 2 U (ag1 hs5))))
theorem zI (s:List Version) (f:Version→Bool):aN s f < (s.length:Int):=by
 have key:∀ (l:List Version) (i:Nat),aN.L1 f aN.K1 l i < ((i+l.length:Nat):Int):=by
  intro l
  induction l with
  | nil=>intro i;simp only [aN.L1,aN.K1];omega
  | cons y l ih=>
   intro i
   simp only [aN.L1,Bool.cond_eq_ite,List.length_cons]
   split
   ·omega
   have:=ih (i+1);omega
 have:=key s 0
 simpa [aN] using this
theorem rR (h:HF) (v:Version) (Nf:nJ) (v0:Int) (v0_q:Addr) (hv:Version.ok h v Nf) (av0:At h v0_q [I v0]):Ret prog 164 [.agg (Version.cells v Nf).toArray,.pointer (some v0_q)] h (.bool (du v v0)):=by
 refine sT func164 U ntmps164 U fun X hM hX hF=>?_
 have hs0:du v v0=du v v0:=rfl
 exact sr (cA (fun b1=>qL 6 [0] U (dF ty3 av0 U (qO 3 U (nretP [.bool (v.No==v0)] (cs hs0))))))
theorem nP (h:HF) (c:bo) (kC:jv) (no:Int) (hc:bo.ok h c kC):DF prog 80 [.agg (bo.cells c kC).toArray,I no] h errV (dJ c no) (fun (r:Policy) v h'=>∃ (rr0:el),v=.agg (Policy.cells r rr0).toArray∧Policy.ok h' r rr0):=by
 refine cz func80 U ntmps80 U fun X hM hX=>?_
 have hs0:dJ c no=dJ c no:=rfl
 refine sr (cA (fun b1=>cA (fun b2=>aV zc64 (fun b3=>qL 6 [2] U (aT 1 U hM (fun h1 hle1 hb1=>aF (et U U (av call163 (pd _ _ _ _ (fun dB=>du dB no) (.func (.func 164) #[] #[Q b2]) (hc.Register.Versions.mono Version.ao hle1) (fun h' dB vw hle a0_o=>iu call164 (rR h' dB vw no ⟨b2,0,none⟩ a0_o ((ct hb1).mono hle)))) U (qO 8 U (ai hs0 U (fun c1 hs1=>?_) (fun c1 hs2=>?_)))))))))))
 ·have c1p:=of_decide_eq_true c1
  exact ay (aF (fg (zY Jf U U) (aF (zU U uL (fun e=>gp (EI [] func80 hs1))))))
 have c1p:=of_decide_eq_false c1
 refine qK 7 [1] U ?_
 have ho1:0≤((aN c.Register.Versions (fun dB=>du dB no)):Int)∧((aN c.Register.Versions (fun dB=>du dB no)):Int) < ((c.Register.Versions).length:Int):=(by have hq:=zI c.Register.Versions (fun dB=>du dB no);simp only [decide_eq_true_eq,decide_eq_false_iff_not,Bool.and_eq_true,Bool.or_eq_true,Bool.not_eq_true',Bool.not_eq_false',Bool.and_eq_false_iff,Bool.or_eq_false_iff,beq_iff_eq,beq_eq_false_iff_ne,bne_iff_ne,bne_eq_false_iff_eq,List.length_append,List.length_cons,List.length_nil,List.length_drop] at *;omega)
 refine aF (gC vf ty105 (hc.Register.Versions.mono Version.ao hle1).1 ho1 (dU ho1) U U U (fun _ _ _ e=>e) (fun q1 r1 A1 ok1=>qL 1 [] U (we (j:=3) ty64 A1 U U (aS 0 ty64 U U U U U U (aD ?_)))))
 have hs3:dJ c no=(Except.ok ((nthI c.Register.Versions (aN c.Register.Versions (fun dB=>du dB no))).Policy)):=hs2
 exact dY (EF [] [.agg (Policy.cells ((nthI c.Register.Versions (aN c.Register.Versions (fun dB=>du dB no))).Policy) r1.Policy).toArray] func80 U ⟨⟨0,_,_,_,_,U,U,.inl ⟨ty64,U⟩⟩,trivial⟩ hs3 ⟨r1.Policy,U,ok1.Policy⟩)
section
variable {P:Program} {e:Env} {X:Cx} {h:HF} {L:LH} {d:Option Nat} {ty:TypeId} {pos:String} {af:Array Edge} {g:Option (Nat×Bool)}
theorem Lk {t u:TypeId} {x:Operand} (hT:∃ ms,P.underlying t=some (.interface ms)) (hx:e.ev x=.nilIface):∀ w,St X h L w→(execOp e.ev ⟨d,.binOp .eql t x (.const .nilIface) u,ty,pos,af,g⟩).run P w=.ok (.value (.bool true)) w:=
 fun w _=>by
  obtain ⟨ms,hT⟩:=hT
  have hc:e.ev (.const .nilIface)=.nilIface:=rfl
  have he:(Op.equal t .nilIface .nilIface).run P w=.ok true w:=by
   rw [Op.equal,Op.maxDepth,show (10000:Nat)=9999+1 from rfl,Op.equalIn];simp [run_underlying hT]
  simp [execOp,hx,hc,eqGuard,binOp,he]
theorem Lj {t u:TypeId} {x:Operand} {T:TypeId} {v:Value} (hT:∃ ms,P.underlying t=some (.interface ms)) (hx:e.ev x=.iface T v):∀ w,St X h L w→(execOp e.ev ⟨d,.binOp .eql t x (.const .nilIface) u,ty,pos,af,g⟩).run P w=.ok (.value (.bool false)) w:=
 fun w _=>by
  obtain ⟨ms,hT⟩:=hT
  have hc:e.ev (.const .nilIface)=.nilIface:=rfl
  have he:(Op.equal t (.iface T v) .nilIface).run P w=.ok false w:=by
   rw [Op.equal,Op.maxDepth,show (10000:Nat)=9999+1 from rfl,Op.equalIn];simp [run_underlying hT]
  simp [execOp,hx,hc,eqGuard,binOp,he]
theorem Gr {x:Operand} {xt T:TypeId} {k:IntKind} {v:Value} (hT:P.underlying T=some (.int k)) (hx:e.ev x=.iface T v):∀ w,St X h L w→(execOp e.ev ⟨d,.typeAssert x xt T true,ty,pos,af,g⟩).run P w=.ok (.value (.tuple #[v,.bool true])) w:=
 fun w _=>by simp [execOp,hx,Instr.typeAssert,run_underlying hT]
end
theorem Ch (h:HF) (b1:Nat) (e0:Int) (X':Cx):TT prog (deferFrame 50) 14 [.code (bodyOf Tryz.f50)] (Cm prog X' .returning (fun h' B=>h'=h∧B=[(b1,O [I e0] 37)])) (envArgs [Q b1]) [] X' h [(b1,O [I e0] 37)]:=by
 exact sr (yJ (fun cs Φ ⟨c,rest,hcs,hm,_⟩=>by subst hcs;simp [recoverD,hm]) (qO 4 U (aF (fg (Lk ⟨_,Jj⟩ U) (qO 6 U (DM CZ U ⟨U,U⟩))))))
theorem wz (h:HF) (b1:Nat) (e0 ee:Int) (X':Cx):TT prog (deferFrame 50) 14 [.code (bodyOf Tryz.f50)]
  (fun cs Φ=>∃ c rest,cs=c::rest∧c.mode=.panicking [{ v:=errV ee,recovered:=false }]∧Cm prog X' (.panicking [{ v:=errV ee,recovered:=true }]) (fun h' B=>h'=h∧B=[(b1,O [I ee] 37)]) ({ c with mode:=(.panicking [{ v:=errV ee,recovered:=true }]) }::rest) Φ)
  (envArgs [Q b1]) [] X' h [(b1,O [I e0] 37)]:=by
 exact sr (Ar (F':=Cm prog X' (.panicking [{ v:=errV ee,recovered:=true }]) (fun h' B=>h'=h∧B=[(b1,O [I ee] 37)])) (errV ee) (fun cs Φ ⟨c,rest,hcs,hm,hF⟩=>⟨_,by subst hcs;simp [recoverD,hm],hF⟩) (qO 4 U (aF (fg (Lj ⟨_,Jj⟩ U) (qO 4 U (aF (fg (Gr Jf U) (qO 11 U (aF (fg (fF U) (cJ 0 ty37 U U U U U U (qO 2 U (DM CZ U ⟨U,U⟩)))))))))))))
theorem pq {P:Program} {b:Frame} {n:Nat} {ops:Array Oper} {l:List Oper} {k:List Item} {F:List Frame→(Machine→Prop)→Prop} {e:Env} {ds:List Deferred} {X:Cx} {h:HF} {L:LH} {d:Nat} {ty:TypeId} {pos:String} {af:Array Edge} {g:Option (Nat×Bool)} {f:FuncId} {ass:Array Operand} {ats:Array TypeId} {vs:List Value} {ρ : Type} {pe:Int→Value} {x:Except Int ρ} {φ : ρ→Value→HF→Prop}
  (hc:∀ args w,(callFunc f args).run P w=.ok (.enter f args) w) (hs:DF P f vs h pe x φ) (hvs:ass.toList.map e.ev=vs)
  (t':∀ u v h',x=.ok u→h.le h'→φ u v h'→TO P b n ops l k F (upd e d v) ds X h' L) (tp:∀ p h',x=.error p→h.le h'→TP P b n [{ v:=pe p,recovered:=false }] F e ds X h' L)
  (hdn:Nat.blt d n=true:=by rfl) (hg:guardB ops e ⟨some d,.call ⟨.value (.func f),ass,ats⟩,ty,pos,af,g⟩=true:=by rfl):
  TO P b n ops (⟨some d,.call ⟨.value (.func f),ass,ats⟩,ty,pos,af,g⟩::l) k F e ds X h L:=by
 refine DL U (m6 hdn) U hg (fun w hw=>?_)
 have harr:ass.map e.ev=vs.toArray:=Array.ext' (by simp [← hvs])
 refine ⟨.enter f vs.toArray,w,?_,?_⟩
 ·simp [execOp,resolve,Env.ev,Deferred.ofValue,invoke,harr,hc]
 refine jD (o9.mono (hs w (hw.sub (List.nil_sublist _)).pre) ?_)
 rintro y w' ⟨h',B,hst,rfl,hv⟩
 have hw2:=St.after (A:=[]) (B:=[]) (F:=L) hw hst
 cases y with
 | outgrown=>trivial
 | returned v=>
  cases x with
  | ok u=>obtain ⟨v',hv,hφ⟩:=hv;cases hv;exact ⟨h',_,hw2,t' _ _ _ rfl hst.le hφ⟩
  | error p=>cases hv
 | panicked ch=>
  cases x with
  | ok u=>obtain ⟨v',hv,_⟩:=hv;cases hv
  | error p=>cases hv;exact ⟨h',_,hw2,tp _ _ rfl hst.le⟩
theorem CV.toXH {P:Program} {f:FuncId} {vs:List Value} {h:HF} {ρ : Type} {pe:Int→Value} {enc:ρ→Value} {x:Except Int ρ} (hs:CV P f vs h (exW pe enc x)):DF P f vs h pe x (fun u v h'=>v=enc u∧h'=h):=
 mP.mono hs (fun r h' B hl hR=>by
  obtain ⟨rfl,rfl,hv⟩:=hR
  refine ⟨U,?_⟩
  cases x with
  | ok u=>simp only [exW] at hv;exact ⟨_,hv,rfl,rfl⟩
  | error p=>simp only [exW] at hv;exact hv)
theorem oP (h:HF) (bL:Register) (ga:dI) (doc:Int) (version:Int) (cL:Int) (known:Int) (jF:Register.ok h bL ga) (hsm:smR bL) (hpo:∃ v∈bL.Versions,v.No=version) (hk:Kinds h):
  jN prog 16 [.agg (Register.cells bL ga).toArray,I doc,I version,I cL,I known] h (fun v h'=>∃ (rb0:Option Addr) (rc0:Nat),v=.tuple #[.slice rb0 ((cg bL doc version cL known).1).length rc0,I ((cg bL doc version cL known).2)]∧SlC Rp.int h' rb0 rc0 ((cg bL doc version cL known).1)):=by
 refine cz I8 U ntmps16 U fun X hM hX=>sr (cA (fun b5=>cK (aV zc37 (fun b11=>qO 3 U (C6 U U (aD ?_))))))
 have fin:∀ (hh:HF) (xs:List Int) (rb:Option Addr) (rc:Nat) (ee:Int) (B:LH) (e:Env),cg bL doc version cL known=(xs,ee)→SlC Rp.int hh rb rc xs→e 10=.slice rb xs.length rc→e 11=Q b11→∀ a:Act,envOf a=e→∀ w,St X hh ([(b11,O [I ee] 37)]++B) w →
   ∃ v h2 B2,(results Tryz.f16 a.tmps).run prog w=.ok v w∧St X h2 B2 w∧(B2=[]∧∃ v',Ending.returned v=.returned v'∧∃ (rb0:Option Addr) (rc0:Nat),v'=.tuple #[.slice rb0 ((cg bL doc version cL known).1).length rc0,I ((cg bL doc version cL known).2)]∧SlC Rp.int h2 rb0 rc0 ((cg bL doc version cL known).1)):=by
  intro hh xs rb rc ee B e he hs h10 h11 a ha w hw
  rw [he]
  exact ⟨_,hh,[],lk (rs:=[.tmp 10,.cell 11 37]) (vs:=[.slice rb xs.length rc,I ee]) U ⟨h10,⟨0,b11,[I ee],37,(0,0),U,h11,.inr ⟨_,ty37,U⟩⟩,trivial⟩ a ha w hw,hw.sub (List.nil_sublist _),U,_,U,rb,rc,U,hs⟩
 refine sr (cW 1 ty30 U U U (av (v:=I (eB bL)) I7 (nu h bL ga jF hsm hk) U ?_))
 refine pq rI (gU h (eB bL)).toXH U (fun u v h1 hx1 hle1 hp1=>?_) (fun ee h1 hx1 hle1=>?_)
 rotate_left
 ·have e1:cg bL doc version cL known=([],ee):=by
   unfold kj at hx1;unfold cg
   cases hc:eB bL != 0 with
   | true=>rw [hc] at hx1;cases hx1;rfl
   | false=>rw [hc] at hx1;cases hx1
  refine Ap (c:=bodyOf Tryz.f50) (cap:=[Q b11]) (A:=[(b11,O [I 0] 37)]) (R':=fun h'' B=>h''=h1∧B=[(b11,O [I ee] 37)]) I8 CZ U GY U GX (fun X' _=>wz h1 b11 0 ee X') U ?_
  rintro h'' B _ ⟨rfl,rfl⟩ a ha w hw
  exact fin _ [] none 0 ee _ _ e1 SlC.nil U U a ha w hw
 obtain ⟨rfl,rfl⟩:=hp1
 have hc0:eB bL=0:=by
  unfold kj at hx1
  cases hc:eB bL != 0 with
  | true=>rw [hc] at hx1;cases hx1
  | false=>simpa using hc
 refine qO 3 U (cW 1 ty30 U U U (qO 3 U ?_))
 refine pq call53 (vF h1 bL ga doc cL known jF) U (fun c v h2 hx2 hle2 hp2=>?_) (fun ee h2 hx2 hle2=>?_)
 rotate_left
 ·have e1:cg bL doc version cL known=([],ee):=by unfold cg;rw [hc0,hx2];rfl
  refine Ap (c:=bodyOf Tryz.f50) (cap:=[Q b11]) (A:=[(b11,O [I 0] 37)]) (R':=fun h'' B=>h''=h2∧B=[(b11,O [I ee] 37)]) I8 CZ U GY U GX (fun X' _=>wz h2 b11 0 ee X') U ?_
  rintro h'' B _ ⟨rfl,rfl⟩ a ha w hw
  exact fin _ [] none 0 ee _ _ e1 SlC.nil U U a ha w hw
 obtain ⟨cr,rfl,okc⟩:=hp2
 obtain ⟨hce,hco,_,_⟩:=D2 hc0 hx2
 have hreg:c.Register=bL:=by rw [hce]
 have hsc:smR c.Register:=by rw [hreg];exact hsm
 obtain ⟨p,hpp⟩:∃ p,dJ c version=.ok p:=by
  have hq:=w6 (c:=c) (no:=version) (by rw [hreg];exact hpo)
  cases hcp:dJ c version with
  | ok p=>exact ⟨p,rfl⟩
  | error e=>rw [hcp] at hq;exact hq.elim
 have hpk:=sJ hco hsc hpp
 have hpx:exOk (dJ c version):=by rw [hpp];trivial
 have e1:cg bL doc version cL known=(cS c p,0):=by unfold cg;rw [hc0,hx2];simp only [bne_self_eq_false,cond_false,hpp]
 refine aV zc123 (fun b12=>aS 0 ty123 U U U U U U (aD ?_))
 let z1:Nat×Obj:=(b12,O (bo.cells c cr) 123)
 obtain ⟨K,hK⟩:∃ K:LH,K=[z1]:=⟨_,rfl⟩
 have J:∀ {h':HF} {A:LH},h2.le h'→Jst h2 [z1] h' (z1::A):=fun hl=>⟨hl,fun q hq=>by rw [List.mem_singleton.1 hq];exact List.mem_cons_self ..⟩
 refine aR (eQ [z1] mixed kr (J lf) (fun hsep _=>dX 0 hsep (J lf) U U kr U (fun _ _ hj=>je ty123 U (hj.nth (i:=0) U) U) (dX 1 hsep (J lf) U U kr U (fun _ _ hj=>je ty123 U (hj.nth (i:=0) U) U) (dX 2 hsep (J lf) U U kr U (fun _ _ _=>jE) (tn 3 U (Db call80 (nP h2 c cr version okc) hpx U (fun v h3 hle3 hp3=>⟨J hle3,?_⟩)))))))
 rw [MA hpp] at hp3
 obtain ⟨pr,rfl,okp⟩:=hp3
 refine tn 4 U (cY call79 (nQ h3 c cr p pr (okc.mono hle3) okp hsc hco hpk.rules) U (fun v h4 hle4 hp4=>⟨J (hle3.t hle4),?_⟩))
 obtain ⟨rb,rc,rfl,sl⟩:=hp4
 refine dX 5 hsep (J (hle3.t hle4)) U U kr U (fun _ _ _=>ua) (tn 6 U (jX 1 (off:=0) (vs:=[I 0]) ty37 U U U U (by rfl) U ⟨J (hle3.t hle4),aW kr (mp (L':=[(b11,O [I 0] 37)]++[z1,(b5,O (Register.cells bL ga) 30)]) (List.Perm.swap _ _ _) (EG (c:=bodyOf Tryz.f50) (cap:=[Q b11]) (A:=[(b11,O [I 0] 37)]) (R':=fun h'' B=>h''=h4∧B=[(b11,O [I 0] 37)]) I8 CZ U GY U GX (fun X' _=>Ch h4 b11 0 X') U ?_))⟩))
 rintro h'' B _ ⟨rfl,rfl⟩ a ha w hw
 exact fin _ _ rb rc 0 _ _ e1 sl U U a ha w hw
theorem mS (h:HF) (eo:Int)  : Ret prog 85 [I eo] h (.bool (gj eo)):=by
 refine sT func85 U ntmps85 U fun X hM hX hF=>?_
 have hs0:gj eo=gj eo:=rfl
 refine qT 9 U (bC 3 [5,6,7,8] 5 8 (decide (eo < 1099511627776)) U (fun c1 hk1=>?_) (fun e=>?_))
 ·exact aj (qO 2 U (hk1 _ U))
 exact an (nretP [.bool (decide (0≤eo)&&decide (eo < 1099511627776))] (cs hs0))
theorem tc (h:HF) (l:List Version) (e8:Option Addr) (eZ:Nat) (l_q:Addr) (known:Int) (known_q:Addr) (eK:Int) (from__q:Addr) (hl:SlC Version.rp h e8 eZ l) (al:At h l_q [.slice e8 l.length eZ]) (aknown:At h known_q [I known]) (afrom_:At h from__q [I eK]) (hsz:l.length≤2000000):Itr prog (.func (.func 167) #[] (List.toArray [.pointer (some l_q),.pointer (some known_q),.pointer (some from__q)])) oS (bK l known eK) h:=by
 refine pU call167 ?_
 intro yf ya yb C Sp Pn h1 A hle m1 m2 m3 hC hy
 refine iV I6 U ntmps167 U fun X hXM hX=>?_
 have hs0:bK l known eK=[]++bK l known eK:=rfl
 refine sr (aF (JP hXM (fun b1 b1M=>qO 9 U (dF ty26 (al.mono hle) U (qL 3 [] U ?_)))))
 refine lp2 l (fun i w=>[(0,.func yf ya yb),(2,.pointer (some known_q)),(3,.pointer (some from__q)),(5,.map (some b1)),(6,I w.1),(13,.slice e8 l.length eZ),(14,I (l.length:Int)),(15,I (i:Int))]) (fun _=>h1) (fun w=>[(b1,w.2.2)]++(A)) (fun i w=>iL (Value.int .i64) (iH Version.rp) h1 w.2.2 w.2.1∧w.2.1.length≤0+i) (fun s1 i w=>[]++(bK.L1 known eK (bK.K1)) s1 w.1 w.2.1) ((-1),[],.map #[] 0) ((hl.mono Version.ao hle).1.1) hs0 ⟨(iL.nil (enc:=(Value.int .i64)) (V:=(iH Version.rp)) (h:=h1)),lc⟩ ?_ ?_
 ·rintro i1 ⟨oU,bz,gS⟩ fA hs1 ⟨fo,mm⟩ e
  try dsimp only at fo mm
  refine qT 3 U (As 0 U b1M (fun h8 hle7 hb3=>?_))
  have mc2:qt (Value.int .i64) (iH Version.rp) h8 b1 bz:=⟨_,hb3,fo.mono (iH.mono Version.ao) hle7⟩
  refine aF (cY call169 (un h8 bz b1 mc2) U (fun v4 h9 hle8 hp3=>aF (cY call168 (vg h9 v4 (bz.map Prod.fst) hp3 (by rw [List.length_map];omega)) U (fun v5 h10 hle9 hp4=>?_))))
  obtain ⟨rb2,rc2,rfl,sl2⟩:=hp4
  refine qL 3 [] U ?_
  refine lp2 (sortI (bz.map Prod.fst)) (fun i w=>[(0,.func yf ya yb),(5,.map (some b1)),(39,.slice rb2 ((sortI (bz.map Prod.fst)).length) rc2),(40,I ((sortI (bz.map Prod.fst)).length:Int)),(41,I (i:Int))]) (fun w=>w.2.2) (fun w=>w.2.1) (fun i w=>C w.1 w.2.2 w.2.1∧HF.le h10 w.2.2) (fun s2 i w=>w.1++(bK.L2 bz (bK.K2)) s2) ([],A,h10) sl2.1.1 hs1 ⟨(m1 _ _ _ _ ((hle7.t hle8).t hle9) hC),lf⟩ ?_ ?_
  ·rintro i2 ⟨dn2,A2_,hh2⟩ zJ hs2 ⟨hC2_,hl2⟩ e
   try dsimp only at hC2_ hl2
   refine dY ?_
   have hs3:bK l known eK=dn2:=hs2.trans (List.append_nil _)
   exact pV [] (A:=A2_) I6 U (List.Sublist.refl _) (.inl (hs3 ▸ hC2_))
  rintro i2 ⟨dn2,A2_,hh2⟩ y2 rz2 hd2 uv mN BA GF hs4 ⟨hC2_,hl2⟩ hx2 ag1 e
  try dsimp only at hC2_ hl2
  refine sr (aw (v':=.bool true) U (cb uv) (qO 8 U (aF (fj (enc:=fun y=>[I y]) ei fa ty3 (sl2.mono Rp.aY hl2).1 (nthZ mN) (ba mN) U U U (fun q4 A10=>dF ty3 A10 U (qO 8 U ?_))))))
  obtain ⟨o3,hb5,hm5⟩:=(mc2.mono (iH.mono Version.ao) ((hle8.t hle9).t hl2))
  refine aF (mt (k:=y2) Jb (eY lS) hb5 hm5 (eG zv105) (show (iH Version.rp) _ (.agg (List.toArray [I 0,I 0,I 0,.string (⟨#[]⟩:ByteArray),.slice none 0 0,.slice none 0 0,.slice none 0 0,I 0,I 0,I 0,.string (⟨#[]⟩:ByteArray),.slice none 0 0,I 0])) (Version.mk 0 0 0 (Policy.mk (⟨#[]⟩:ByteArray) [] [] [] (Expr.mk 0 0 0 (⟨#[]⟩:ByteArray) []) 0)) from ⟨_,U,(nJ.mk (el.mk none 0 none 0 none 0 (cG.mk none 0))),U,⟨⟨SlC.nil,SlC.nil,SlC.nil,(Expr.ok.of SlC.nil)⟩⟩⟩) U U (fun v7 hv3=>?_))
  obtain ⟨_,rfl,rr4,rfl,ok4⟩:=hv3
  have hx3:bK l known eK=dn2++((y2,(mgetD bz y2 (Version.mk 0 0 0 (Policy.mk (⟨#[]⟩:ByteArray) [] [] [] (Expr.mk 0 0 0 (⟨#[]⟩:ByteArray) []) 0))))::(bK.L2 bz (bK.K2) rz2)):=hs4
  refine aF (jW ([]) A2_ ap (hy dn2 (y2,(mgetD bz y2 (Version.mk 0 0 0 (Policy.mk (⟨#[]⟩:ByteArray) [] [] [] (Expr.mk 0 0 0 (⟨#[]⟩:ByteArray) []) 0)))) _ _ _ _ hx3 (((hle7.t hle8).t hle9).t hl2) hC2_ ⟨rr4,U,ok4⟩) U U (fun h14 A11 hle13 hC3=>?_) (fun h15 A12 hle14 hS3=>?_) (fun ch3 h16 A13 hle15 hP3 e=>gp (lG [] (A:=A13) I6 (List.sublist_append_right _ _) hP3)))
  ·have hs5:bK l known eK=(dn2++[(y2,(mgetD bz y2 (Version.mk 0 0 0 (Policy.mk (⟨#[]⟩:ByteArray) [] [] [] (Expr.mk 0 0 0 (⟨#[]⟩:ByteArray) []) 0))))])++((bK.L2 bz (bK.K2) rz2)):=hx3.trans ap
   exact kz U (qO 5 U (aw (v':=I (((i2+1):Nat):Int)) U (bw ob) (qO 2 U (ag1 ((dn2++[(y2,(mgetD bz y2 (Version.mk 0 0 0 (Policy.mk (⟨#[]⟩:ByteArray) [] [] [] (Expr.mk 0 0 0 (⟨#[]⟩:ByteArray) []) 0))))]),A11,h14) hs5 ⟨hC3,(hl2.t hle13)⟩))))
  exact kz U (qO 2 U (dY (lq [] (A:=A12) I6 U (List.Sublist.refl _) (.inr hS3))))
 rintro i1 ⟨oU,bz,gS⟩ y1 rz1 hd1 dx aL eH hO hs6 ⟨fo,mm⟩ hx1 ag2 e
 try dsimp only at fo mm
 refine sr (aw (v':=.bool true) U (cb dx) (qO 8 U (aF (gC vf ty105 (hl.mono Version.ao hle).1 (nthZ aL) (ba aL) U U U (fun _ _ _ e=>e) (fun q5 r2 A14 ok5=>dz ty105 A14 U U (aV zc105 (fun b3=>aS 0 ty105 U U U U U U (iw (L':=[(b3,O (Version.cells y1 r2) 105),(b1,gS)]++(A)) U (qL 6 [0] U (dF ty3 (aknown.mono hle) U (qO 2 U (jG U (fun c5=>?_) (fun c5=>?_)))))))))))))
 ·have c5p:=of_decide_eq_true c5
  have hs7:=hs6.trans (congrArg ([]++·) (bt c5))
  exact kv U (ay (aw (v':=I (((i1+1):Nat):Int)) U (bw ob) (qO 2 U (bB (L':=[(b1,gS)]++(A)) js (ag2 (oU,bz,gS) hs7 ⟨fo,lc⟩)))))
 have c5p:=of_decide_eq_false c5
 have hs8:=hs6.trans (congrArg ([]++·) (bf c5))
 refine qK 11 [0] U (dF ty3 (afrom_.mono hle) U (qO 2 U (jG U (fun c6=>?_) (fun c6=>?_))))
 ·have c6p:=of_decide_eq_true c6
  have hs9:=hs8.trans (congrArg ([]++·) (bt c6))
  refine qT 7 U (jG U (fun c7=>?_) (fun c7=>?_))
  ·have c7p:=of_decide_eq_true c7
   have hs10:=hs9.trans (congrArg ([]++·) (bt c7))
   exact kv U (ay (aw (v':=I (((i1+1):Nat):Int)) U (bw ob) (qO 2 U (bB (L':=[(b1,gS)]++(A)) js (ag2 (oU,bz,gS) hs10 ⟨fo,lc⟩)))))
  have c7p:=of_decide_eq_false c7
  have hs11:=hs9.trans (congrArg ([]++·) (bf c7))
  exact aJ (eQ ([(b3,O (Version.cells y1 r2) 105),(b1,gS)]) mixed kr jn (fun dH _=>tm 0 U (tf 1 U U (fun _ _ hj=>eV ty3 ((afrom_.mono hle).mono hj.1) U) (qA [2,3] U (aW kr (qT 3 U (cW 0 ty105 U U U (aF (jJ 1 (k:=eK) (x:=y1) Jb (eY lS) U fo U U ⟨_,U,r2,U,ok5⟩ (fun mo3 hm6=>qO 3 U (aw (v':=I (((i1+1):Nat):Int)) U (bw ob) (qO 2 U (bB (L':=[(b1,mo3)]++(A)) js (ag2 (y1.At,(mput bz eK y1),mo3) hs11 ⟨hm6,(by have:=ly bz eK y1;first | omega | (simp only [List.length_nil,List.length_cons] at *;omega))⟩))))))))))))))
 have c6p:=of_decide_eq_false c6
 have hs12:=hs8.trans (congrArg ([]++·) (bf c6))
 exact aJ (qT 3 U (cW 0 ty105 U U U (aF (jJ 1 (k:=y1.At) (x:=y1) Jb (eY lS) U fo U U ⟨_,U,r2,U,ok5⟩ (fun mo4 hm7=>qO 3 U (aw (v':=I (((i1+1):Nat):Int)) U (bw ob) (qO 2 U (bB (L':=[(b1,mo4)]++(A)) js (ag2 (oU,(mput bz y1.At y1),mo4) hs12 ⟨hm7,(by have:=ly bz y1.At y1;first | omega | (simp only [List.length_nil,List.length_cons] at *;omega))⟩)))))))))
theorem ve (h:HF) (l:List Version) (e8:Option Addr) (eZ:Nat) (dM:Int) (known:Int) (hl:SlC Version.rp h e8 eZ l) (hsz:l.length≤2000000):jN prog 86 [.slice e8 l.length eZ,I dM,I known] h (fun v h'=>∃ (rv0:Value),v=rv0∧Itr prog rv0 oS (ft l dM known) h'):=by
 refine sT func86 U ntmps86 U fun X hM hX hF=>?_
 have hs0:ft l dM known=ft l dM known:=rfl
 refine sr (cA (fun b1=>cA (fun b2=>cA (fun b3=>qO 4 U (aT 2 U hM (fun h1 hle1 hb1=>aT 0 U hM (fun h2 hle2 hb2=>aT 0 U hM (fun h3 hle3 hb3=>aF (et U U (qO 2 U ?_))))))))))
 have hs1:ft l dM known=(bK l known dM):=hs0
 exact nretH [.func (.func 167) #[] #[Q b1,Q b3,Q b2]] ⟨(.func (.func 167) #[] #[Q b1,Q b3,Q b2]),congrArg (fun r:(List (Int×Version))=>((.func (.func 167) #[] #[Q b1,Q b3,Q b2]):Value)) hs1.symm,(by rw [hs1];exact (tc h3 l e8 eZ ⟨b1,0,none⟩ known ⟨b3,0,none⟩ dM ⟨b2,0,none⟩ (hl.mono Version.ao ((hle1.t hle2).t hle3)) ((ct hb1).mono (hle2.t hle3)) ((ct hb2).mono hle3) (ct hb3) ob))⟩
theorem oo (h:HF) (l:List Version) (e8:Option Addr) (eZ:Nat) (old:Bool) (hl:SlC Version.rp h e8 eZ l):jN prog 170 [.slice e8 l.length eZ,.bool old] h (fun v h'=>∃ (rb0:Option Addr) (rc0:Nat),v=.slice rb0 (ip l old).length rc0∧SlC Version.rp h' rb0 rc0 (ip l old)):=by
 refine sT func170 U ntmps170 U fun X hM hX hF=>?_
 have hs0:ip l old=ip l old:=rfl
 refine qT 9 U ?_
 have hs1:ip l old=l:=hs0
 exact nretH [.slice e8 l.length eZ] ⟨e8,eZ,congrArg (fun r:List Version=>(.slice e8 r.length eZ:Value)) hs1.symm,(by rw [hs1];exact hl)⟩
theorem tE (h:HF) (l:List Version) (e8:Option Addr) (eZ:Nat) (old:Bool) (hl:SlC Version.rp h e8 eZ l) (hne:0 < l.length):jN prog 171 [.slice e8 l.length eZ,.bool old] h (fun v h'=>∃ (rb0:Option Addr) (rc0:Nat),v=.slice rb0 (gT l old).length rc0∧SlC Version.rp h' rb0 rc0 (gT l old)):=by
 refine sT func171 U ntmps171 U fun X hM hX hF=>?_
 have hs0:gT l old=gT l old:=rfl
 refine qT 10 U (ai hs0 U (fun c1 hs1=>?_) (fun c1 hs2=>?_))
 ·refine qT 4 U ?_
  have hs3:gT l old=[]:=hs1
  exact nretH [.slice none 0 0] ⟨none,0,congrArg (fun r:List Version=>(.slice none r.length 0:Value)) hs3.symm,(by rw [hs3];exact SlC.nil)⟩
 refine qT 4 U (aF (JJ vf ty105 hl.1 hl.2 ob U U U (fun sb1 sc1 sl1=>an ?_)))
 have hs4:gT l old=(l.take ((1:Int)).toNat):=hs2
 exact nretH [.slice sb1 ((l.take ((1:Int)).toNat).length) sc1] ⟨sb1,sc1,congrArg (fun r:List Version=>(.slice sb1 r.length sc1:Value)) hs4.symm,(by rw [hs4];exact sl1)⟩
theorem tD (h:HF) (l:List Version) (e8:Option Addr) (eZ:Nat) (old:Bool) (hl:SlC Version.rp h e8 eZ l) (hne:0 < l.length):jN prog 172 [.slice e8 l.length eZ,.bool old] h (fun v h'=>∃ (rb0:Option Addr) (rc0:Nat),v=.slice rb0 (io l old).length rc0∧SlC Version.rp h' rb0 rc0 (io l old)):=by
 refine sT func172 U ntmps172 U fun X hM hX hF=>?_
 have hs0:io l old=io l old:=rfl
 have hbl:=hl.1.1
 refine qK 9 [] U (aw (v':=I ((l.length:Int) - 1)) U (jV ob) (aF (JM vf ty105 hl.1 hl.2 ob U U U (fun sb1 sc1 sl1=>an ?_))))
 have hs1:io l old=(l.drop ((((l.length:Int) - 1):Int)).toNat):=hs0
 exact nretH [.slice sb1 ((l.drop ((((l.length:Int) - 1):Int)).toNat).length) sc1] ⟨sb1,sc1,congrArg (fun r:List Version=>(.slice sb1 r.length sc1:Value)) hs1.symm,(by rw [hs1];exact sl1)⟩
theorem pD (h:HF)   : jN prog 87 [] h (fun v h'=>∃ (rk0:Nat),v=.map (some rk0)∧qt (Value.int .i64) VFn h' rk0 (j2)):=by
 refine sT func87 U ntmps87 U fun X hM hX hF=>?_
 have hs0:j2=j2:=rfl
 refine qT 10 U (aF (mr (fun b1=>aF (tQ 0 (k:=1) (x:=(Value.func (.func 171) #[] #[])) Ez (eY lS) U (iL.nil (enc:=(Value.int .i64)) (V:=VFn) (h:=h)) U U U (fun mo1 hm1=>aF (tQ 0 (k:=2) (x:=(Value.func (.func 172) #[] #[])) Ez (eY lS) U hm1 U U U (fun mo2 hm2=>aj (aF (tQ 0 (k:=3) (x:=(Value.func (.func 170) #[] #[])) Ez (eY lS) U hm2 U U U (fun mo3 hm3=>aj (aF (tQ 0 (k:=4) (x:=(Value.func (.func 170) #[] #[])) Ez (eY lS) U hm3 U U U (fun mo4 hm4=>qO 3 U (eI 0 U hM (fun h1 hle1 hb1=>?_)))))))))))))))
 have mc1:qt (Value.int .i64) VFn h1 b1 (mput (mput (mput (mput ([]) 1 (Value.func (.func 171) #[] #[])) 2 (Value.func (.func 172) #[] #[])) 3 (Value.func (.func 170) #[] #[])) 4 (Value.func (.func 170) #[] #[])):=⟨_,hb1,hm4.mono VFn.mono hle1⟩
 have hs1:j2=(mput (mput (mput (mput ([]) 1 (Value.func (.func 171) #[] #[])) 2 (Value.func (.func 172) #[] #[])) 3 (Value.func (.func 170) #[] #[])) 4 (Value.func (.func 170) #[] #[])):=hs0
 exact nretH [.map (some b1)] ⟨b1,congrArg (fun r:(List (Int×Value))=>(.map (some b1):Value)) hs1.symm,(by rw [hs1];exact mc1)⟩
theorem Fw (mode:Int) (l:List Version) (old:Bool):(judgesP mode l old).length≤l.length:=by
 unfold judgesP ip gT io
 cases mode==1 <;> cases mode==2 <;> cases old <;> simp <;> omega
theorem Fu (h:HF) (mode:Int) (hm:1≤mode∧mode≤4) (l:List Version) (e8:Option Addr) (eZ:Nat) (old:Bool) (hl:SlC Version.rp h e8 eZ l) (hne:0 < l.length):
  Mc prog (mgetD j2 mode Value.nilFunc) [.slice e8 l.length eZ,.bool old] h (fun v h'=>∃ (rb0:Option Addr) (rc0:Nat),v=.slice rb0 (judgesP mode l old).length rc0∧SlC Version.rp h' rb0 rc0 (judgesP mode l old)):=by
 have:mode=1∨mode=2∨mode=3∨mode=4:=by omega
 rcases this with rfl | rfl | rfl | rfl
 ·exact lT (cap:=[]) (args:=[.slice e8 l.length eZ,.bool old]) call171 (tE h l e8 eZ old hl hne)
 ·exact lT (cap:=[]) (args:=[.slice e8 l.length eZ,.bool old]) call172 (tD h l e8 eZ old hl hne)
 ·exact lT (cap:=[]) (args:=[.slice e8 l.length eZ,.bool old]) call170 (oo h l e8 eZ old hl)
 exact lT (cap:=[]) (args:=[.slice e8 l.length eZ,.bool old]) call170 (oo h l e8 eZ old hl)
theorem vO (h:HF) (l:List Version) (e8:Option Addr) (eZ:Nat) (begun:Int) (cv:Int) (known:Int) (hl:SlC Version.rp h e8 eZ l) (hsm:smV l) (hk:Kinds h):jN prog 22 [.slice e8 l.length eZ,I begun,I cv,I known] h (fun v h'=>∃ (rb0:Option Addr) (rc0:Nat),v=.tuple #[.slice rb0 ((bE l begun cv known).1).length rc0,I ((bE l begun cv known).2.1),I ((bE l begun cv known).2.2)]∧SlC Rp.int h' rb0 rc0 ((bE l begun cv known).1)):=by
 refine cz Ey U ntmps22 U fun X hM hX=>?_
 have hs0:bE l begun cv known=bE l begun cv known:=rfl
 have hsl:=hsm.len
 refine sr (cA (fun b1=>cA (fun b2=>qO 8 U (av call69 (oA _ _ _ _ hl ob hk) U (qO 7 U (ai hs0 U (fun c1 hs1=>?_) (fun c1 hs2=>?_)))))))
 ·refine qT 7 U ?_
  have hs3:bE l begun cv known=([],0,(bF l)):=hs1
  exact jd [.slice none 0 0,I 0,I (bF l)] Ey U rd ⟨none,0,congrArg (fun r:(List Int×Int×Int)=>(.tuple #[.slice none r.1.length 0,I r.2.1,I r.2.2]:Value)) hs3.symm,(by rw [hs3];exact SlC.nil)⟩
 refine qK 5 [1] U (av call85 (mS h begun) U (qO 2 U (bY 4 [25,26,27,28,29] 25 29 (!(gj cv)) U (fun c2 hk1=>?_) (fun e=>?_))))
 ·exact qL 1 [0] U (av call85 (mS h cv) U (qO 2 U (hk1 _ U)))
 refine aj (bY 4 [30,31,32,33,34] 30 34 (!(gj known)) U (fun c3 hk2=>?_) (fun e=>?_))
 ·exact aj (av call85 (mS h known) U (qO 2 U (hk2 _ U)))
 refine aj (bY 4 [35,36,37,38,39] 35 39 (decide (cv < begun)) U (fun c4 hk3=>?_) (fun e=>?_))
 ·exact qL 4 [1,0] U (hk3 _ U)
 refine aD (ai hs2 U (fun c5 hs4=>?_) (fun c5 hs5=>?_))
 ·refine qT 6 U ?_
  have hs6:bE l begun cv known=([],0,1):=hs4
  exact jd [.slice none 0 0,I 0,I 1] Ey U rd ⟨none,0,congrArg (fun r:(List Int×Int×Int)=>(.tuple #[.slice none r.1.length 0,I r.2.1,I r.2.2]:Value)) hs6.symm,(by rw [hs6];exact SlC.nil)⟩
 refine qT 3 U (aV zc26 (fun b3=>qO 3 U (aV zc4 (fun b4=>cJ 0 ty4 U U U U U U (qL 7 [3] U (aF (cY call86 (ve _ _ _ _ begun known hl ob) U (fun v1 h1 hle1 hp1=>?_))))))))
 obtain ⟨_,rfl,mo1⟩:=hp1
 refine qO 2 U (dY (cu (L':=([(b4,O [.bool false] 4),(b3,O [.slice none 0 0] 26),(b2,O [I cv] 3),(b1,O [I begun] 3)])++markB []) ap ?_))
 refine Ih (it:=v1) (xs:=(ft l begun known)) (ι:=Bool×List Version×Option Addr×Nat×LH×HF) [] (fun i=>i.2.2.2.2.2) (fun i=>[(b4,O [.bool i.1] 4),(b3,O [.slice i.2.2.1 i.2.1.length i.2.2.2.1] 26),(b2,O [I cv] 3),(b1,O [I begun] 3)]++(i.2.2.2.2.1)) (fun s i=>bE l begun cv known=((bE.L1 begun cv (bE.K1)) s i.1 i.2.1)∧em Version.rp 105 i.2.2.2.2.2 i.2.1 i.2.2.1 i.2.2.2.1 i.2.2.2.2.1∧HF.le h1 i.2.2.2.2.2∧(∀ x∈i.2.1,x∈l)∧(∀ q∈s,q.2∈l)∧i.2.1.length+s.length≤l.length) (fun _=>False) 0 (fun _ _ _=>False) (false,[],none,0,[],h1) Ey U mo1 U vr (fun _ _ _ _ _ hq=>hq) U (show [(b4,O [.bool false] 4),(b3,O [.slice none 0 0] 26),(b2,O [I cv] 3),(b1,O [I begun] 3)]=_ from U) ⟨hs5,em.nil,lf,(fun x hx=>(List.not_mem_nil hx).elim),uu,(by have:=zb l begun known;simpa using this)⟩ ?_ ?_ ?_ ?_
 ·rintro l1 dm1 lp1 y1 rz1 vs1 ⟨dA,bJ,fS,fR,jc,hh1⟩ hr1 X hFR1 ⟨hs7,lB,hl1,u1_0,u1_1,u1_2⟩ hl01 hlr1 hv1 hX hXM hlp1 nx1 rt1 ex1 pn1
  try dsimp only at lB hl1 u1_0 u1_1 u1_2 hlr1
  obtain ⟨rr1_0,rfl,ok1_0⟩:=hv1
  simp only [List.length_cons] at u1_2
  let z2:Nat×Obj:=(b3,O [.slice fS bJ.length fR] 26)
  let z6:Nat×Obj:=(dm1,.deferred (some []))
  refine cu (L':=[(l1,.loop lp1),z6,(b4,O [.bool dA] 4),z2,(b2,O [I cv] 3),(b1,O [I begun] 3)]++(jc++(markB []))) ap (qT 5 U (aV zc105 (fun b6=>aS 0 ty105 U U U U U U (iw (L':=[(b6,O (Version.cells y1.2 rr1_0) 105),(l1,.loop lp1),z6,(b4,O [.bool dA] 4),z2,(b2,O [I cv] 3),(b1,O [I begun] 3)]++(jc++(markB []))) U (aD (jh 1 U hlp1 (qK 8 [5] U (ai hs7 U (fun c7 hs8=>?_) (fun c7 hs9=>?_)))))))))
  ·have c7p:=of_decide_eq_true c7
   exact bB (L':=[(l1,.loop { lp1 with state:=.busy }),z6,(b4,O [.bool dA] 4),z2,(b2,O [I cv] 3),(b1,O [I begun] 3)]++(jc++(markB []))) js (cu (L':=rdH l1 dm1 lp1 (([(b4,O [.bool dA] 4),z2,(b2,O [I cv] 3),(b1,O [I begun] 3)]++(jc))++markB [])) ap (ex1 (dA,bJ,fS,fR,jc,hr1) _ _ _ ⟨hs8,(lB.mono Version.ao hlr1),(hl1.t hlr1),u1_0,(fun q hq=>(List.not_mem_nil hq).elim),(by simp only [List.length_nil,List.length_cons] at *;omega)⟩ lf U))
  have c7p:=of_decide_eq_false c7
  refine qK 5 [3] U (bY 4 [50,51,52,53,54] 50 54 (y1.1==begun) U (fun c8 hk4=>?_) (fun e=>?_))
  ·exact qL 4 [6] U (hk4 _ U)
  refine cJ 3 ty4 U U U U U U (qL 3 [4] U (cW 0 ty105 U U U (aF (bV (cells:=[I y1.2.No,I y1.2.At,I y1.2.Known,.string y1.2.Policy.Name,.slice rr1_0.Policy.iA y1.2.Policy.Kinds.length rr1_0.Policy.iz,.slice rr1_0.Policy.fO y1.2.Policy.Offices.length rr1_0.Policy.fN,.slice rr1_0.Policy.lv y1.2.Policy.Rules.length rr1_0.Policy.lu,I y1.2.Policy.Change.Kind,I y1.2.Policy.Change.N,I y1.2.Policy.Change.No,.string y1.2.Policy.Change.Name,.slice rr1_0.Policy.Change.jB y1.2.Policy.Change.L.length rr1_0.Policy.Change.jC,I y1.2.Policy.Mode]) vf ty105 zc105 U U kr (fun b7=>?_)))))
  let z1:Nat×Obj:=(b7,O [I y1.2.No,I y1.2.At,I y1.2.Known,.string y1.2.Policy.Name,.slice rr1_0.Policy.iA y1.2.Policy.Kinds.length rr1_0.Policy.iz,.slice rr1_0.Policy.fO y1.2.Policy.Offices.length rr1_0.Policy.fN,.slice rr1_0.Policy.lv y1.2.Policy.Rules.length rr1_0.Policy.lu,I y1.2.Policy.Change.Kind,I y1.2.Policy.Change.N,I y1.2.Policy.Change.No,.string y1.2.Policy.Change.Name,.slice rr1_0.Policy.Change.jB y1.2.Policy.Change.L.length rr1_0.Policy.Change.jC,I y1.2.Policy.Mode] 105)
  let z4:Nat×Obj:=(b4,O [.bool (dA||(y1.1==begun))] 4)
  let z5:Nat×Obj:=(l1,.loop { lp1 with state:=.busy })
  let z7:Nat×Obj:=(b6,O (Version.cells y1.2 rr1_0) 105)
  refine aF (eR Version.eF ([z1,z7,z5,z6,z4,z2,(b2,O [I cv] 3),(b1,O [I begun] 3)]) (markB []) (fun G=>[z1,z7,z5,z6,z4,z2,(b2,O [I cv] 3),(b1,O [I begun] 3)]++(markB []++G)) ap (fun _=>ap) vf ty105 zc105 U bytes105 (lB.mono Version.ao hlr1) U U (fI 0 U (show bu Version.rp hr1 [I y1.2.No,I y1.2.At,I y1.2.Known,.string y1.2.Policy.Name,.slice rr1_0.Policy.iA y1.2.Policy.Kinds.length rr1_0.Policy.iz,.slice rr1_0.Policy.fO y1.2.Policy.Offices.length rr1_0.Policy.fN,.slice rr1_0.Policy.lv y1.2.Policy.Rules.length rr1_0.Policy.lu,I y1.2.Policy.Change.Kind,I y1.2.Policy.Change.N,I y1.2.Policy.Change.No,.string y1.2.Policy.Change.Name,.slice rr1_0.Policy.Change.jB y1.2.Policy.Change.L.length rr1_0.Policy.Change.jC,I y1.2.Policy.Mode] ([y1.2]) from ⟨[I y1.2.No,I y1.2.At,I y1.2.Known,.string y1.2.Policy.Name,.slice rr1_0.Policy.iA y1.2.Policy.Kinds.length rr1_0.Policy.iz,.slice rr1_0.Policy.fO y1.2.Policy.Offices.length rr1_0.Policy.fN,.slice rr1_0.Policy.lv y1.2.Policy.Rules.length rr1_0.Policy.lu,I y1.2.Policy.Change.Kind,I y1.2.Policy.Change.N,I y1.2.Policy.Change.No,.string y1.2.Policy.Change.Name,.slice rr1_0.Policy.Change.jB y1.2.Policy.Change.L.length rr1_0.Policy.Change.jC,I y1.2.Policy.Mode],[],U,U,⟨rr1_0,U,ok1_0⟩,U⟩)) lo lo (fun ob1 oc1 G1 gr1=>uI (py ([z1,z7,z5,z6,z4,z2,(b2,O [I cv] 3),(b1,O [I begun] 3)]) G1 (markB [])) (cJ 5 ty26 U U U U U U (qO 2 U ?_))))
  let z9:Nat×Obj:=(b3,O [.slice ob1 ((bJ++[y1.2]).length) oc1] 26)
  exact bB (L':=[z5,z6,z4,z9,(b2,O [I cv] 3),(b1,O [I begun] 3)]++(G1++(markB []))) js (cu (L':=rdH l1 dm1 lp1 (([z4,z9,(b2,O [I cv] 3),(b1,O [I begun] 3)]++G1)++markB [])) ap (nx1 ((dA||(y1.1==begun)),(bJ++[y1.2]),ob1,oc1,G1,hr1) _ _ ⟨hs9,gr1,(hl1.t hlr1),(fun x hx=>(List.mem_append.1 hx).elim (u1_0 x) (fun hx=>by rw [List.mem_singleton.1 hx];exact u1_1 y1 (List.mem_cons_self ..))),(fun q hq=>u1_1 q (List.mem_cons_of_mem _ hq)),(by simp only [List.length_append,List.length_cons,List.length_nil] at *;omega)⟩ lf))
 ·rintro dm1 ⟨dA,bJ,fS,fR,jc,hh1⟩ hn1 ⟨hs10,lB,hl1,u1_0,u1_1,u1_2⟩ hln1 hl01
  try dsimp only at lB hl1 u1_0 u1_1 u1_2 hln1
  let z3:Nat×Obj:=(b3,O [.slice fS bJ.length fR] 26)
  refine cu (L':=[(b4,O [.bool dA] 4),z3,(b2,O [I cv] 3),(b1,O [I begun] 3)]++(jc++(markB (dm1::[])))) ap (qK 7 [1] U (ai hs10 U (fun c9 hs11=>?_) (fun c9 hs12=>?_)))
  ·refine qT 6 U ?_
   have hs13:bE l begun cv known=([],0,0):=hs11
   exact cu (L':=([(b4,O [.bool dA] 4),z3,(b2,O [I cv] 3),(b1,O [I begun] 3)]++(jc))++markB (dm1::[])) ap (oq (dm1::[]) [.slice none 0 0,I 0,I 0] Ey U rd ⟨none,0,congrArg (fun r:(List Int×Int×Int)=>(.tuple #[.slice none r.1.length 0,I r.2.1,I r.2.2]:Value)) hs13.symm,(by rw [hs13];exact SlC.nil)⟩)
  refine qK 6 [1,1] U (aw (v':=I ((bJ.length:Int) - 1)) U (jV ob) (pG Version.ao ([(b4,O [.bool dA] 4),z3,(b2,O [I cv] 3),(b1,O [I begun] 3)]) jc (markB (dm1::[])) ap hM (lB.mono Version.ao hln1) (fun h2 hle2 sl1=>?_)))
  have ho1:0≤(((bJ.length:Int) - 1):Int)∧(((bJ.length:Int) - 1):Int) < ((bJ).length:Int):=ob
  refine aF (gC vf ty105 sl1.1 ho1 (dU ho1) U U U (fun _ _ _ e=>e) (fun q1 r1 A1 ok1=>qL 2 [] U (kd (j:=12) ty3 A1 U U (qO 4 U (eQ ([(b4,O [.bool dA] 4),z3,(b2,O [I cv] 3),(b1,O [I begun] 3)]) mixed kr jn (fun dH _=>tm 1 U (tf 3 U U (fun _ _ hj=>fH ty26 U (hj.nth (i:=1) U) U) (tf 4 U U (fun _ _ hj=>fH ty4 U (hj.nth (i:=0) U) U) (tm 7 U (tn 0 U (cY call87 (pD h2) U (fun v2 h3 hle3 hp2=>?_))))))))))))
  obtain ⟨rk2,rfl,mo2⟩:=hp2
  refine ⟨jl hle3,tu hle3 (tn 2 U ?_)⟩
  obtain ⟨o1,hb1,hm1⟩:=mo2
  refine mt (k:=(nthI bJ ((bJ.length:Int) - 1)).Policy.Mode) Ez (eY lS) hb1 hm1 (eG zv152) (show VFn _ (.nilFunc) Value.nilFunc from U) U U (fun v3 hv1=>?_)
  obtain rfl:=hv1
  refine ⟨jn,tn 5 U (JU (Fu h3 ((nthI bJ ((bJ.length:Int) - 1)).Policy.Mode) (((oJ l).1 (by simpa using c1)).mode (u1_0 _ (mL ho1))) bJ fS fR dA (sl1.mono Version.ao hle3) ob) U U (fun v4 h4 hle4 hp3=>?_))⟩
  obtain ⟨rb1,rc1,rfl,sl2⟩:=hp3
  have hjl:=Fw ((nthI bJ ((bJ.length:Int) - 1)).Policy.Mode) bJ dA
  refine ⟨jl hle4,tu hle4 (tf 6 U U (fun _ _ _=>E4 vf U) (aW kr ?_))⟩
  refine lp2 (judgesP ((nthI bJ ((bJ.length:Int) - 1)).Policy.Mode) bJ dA) (fun i w=>[(8,.slice w.2.1 w.1.length w.2.2.1),(9,I ((nthI bJ ((bJ.length:Int) - 1)).Policy.Mode)),(75,.slice rb1 ((judgesP ((nthI bJ ((bJ.length:Int) - 1)).Policy.Mode) bJ dA).length) rc1),(76,I (((judgesP ((nthI bJ ((bJ.length:Int) - 1)).Policy.Mode) bJ dA).length:Nat):Int)),(77,I (i:Int))]) (fun _=>h4) (fun w=>[(b4,O [.bool dA] 4),z3,(b2,O [I cv] 3),(b1,O [I begun] 3)]++(w.2.2.2++(markB (dm1::[])))) (fun i w=>em Rp.int 3 h4 w.1 w.2.1 w.2.2.1 w.2.2.2∧w.1.length≤0+i) (fun s2 i w=>(bE.L2 (bE.K2 bJ)) s2 w.1) ([],none,0,[]) sl2.1.1 hs12 ⟨em.nil,lo⟩ ?_ ?_
  ·rintro i2 ⟨oT,uy,ux,vI⟩ fA hs14 ⟨s5,BF⟩ e
   try dsimp only at s5 BF
   refine qT 3 U (aF (lV ([(b4,O [.bool dA] 4),z3,(b2,O [I cv] 3),(b1,O [I begun] 3)]) vI (markB (dm1::[])) I9 (lh h4 oT uy ux vI s5 (by first | assumption | omega | (simp only [List.length_append,List.length_cons,List.length_nil] ;omega))) ap U (fun G4 gr4=>qO 9 U (gL Rp.aY ([(b4,O [.bool dA] 4),z3,(b2,O [I cv] 3),(b1,O [I begun] 3)]) G4 (markB (dm1::[])) ap hM gr4 (fun h6 hle6 sl4=>?_)))))
   have hs15:bE l begun cv known=((sortI oT),(nthI bJ ((bJ.length:Int) - 1)).Policy.Mode,0):=hs14
   exact cu (L':=([(b4,O [.bool dA] 4),z3,(b2,O [I cv] 3),(b1,O [I begun] 3)])++markB (dm1::[])) ap (oq (dm1::[]) [.slice uy oT.length ux,I ((nthI bJ ((bJ.length:Int) - 1)).Policy.Mode),I 0] Ey U rd ⟨uy,ux,(by rw [hs15];simp [retVal,ir]),(by rw [hs15];exact sl4)⟩)
  rintro i2 ⟨oT,uy,ux,vI⟩ y2 rz2 hd2 uv mN BA GF hs16 ⟨s5,BF⟩ hx2 ag1 e
  try dsimp only at s5 BF
  refine sr (aw (v':=.bool true) U (cb uv) (qO 8 U (aF (gC vf ty105 sl2.1 (nthZ mN) (ba mN) U U U (fun _ _ _ e=>e) (fun q3 r3 A3 ok3=>dz ty105 A3 U U (aV zc105 (fun b10=>aS 0 ty105 U U U U U U (iw (L':=[(b10,O (Version.cells y2 r3) 105),(b4,O [.bool dA] 4),z3,(b2,O [I cv] 3),(b1,O [I begun] 3)]++(vI++(markB (dm1::[])))) U ?_))))))))
  let z8:Nat×Obj:=(b10,O (Version.cells y2 r3) 105)
  exact qL 5 [0] U (aF (bV (cells:=[I y2.No]) fa ty3 zc3 U U kr (fun b11=>aF (eR Rp.kR ([(b11,O [I y2.No] 3),z8,(b4,O [.bool dA] 4),z3,(b2,O [I cv] 3),(b1,O [I begun] 3)]) (markB (dm1::[])) (fun G=>[(b11,O [I y2.No] 3),z8,(b4,O [.bool dA] 4),z3,(b2,O [I cv] 3),(b1,O [I begun] 3)]++(markB (dm1::[])++G)) ap (fun _=>ap) fa ty3 zc3 U bytes3 s5 U U (fI 0 U (show bu Rp.int h4 [I y2.No] ([y2.No]) from ⟨[I y2.No],[],U,U,U,U⟩)) lo lo (fun ob3 oc3 G5 gr5=>uI (py ([(b11,O [I y2.No] 3),z8,(b4,O [.bool dA] 4),z3,(b2,O [I cv] 3),(b1,O [I begun] 3)]) G5 (markB (dm1::[]))) (qO 4 U (aw (v':=I (((i2+1):Nat):Int)) U (bw ob) (qO 2 U (bB (L':=[(b4,O [.bool dA] 4),z3,(b2,O [I cv] 3),(b1,O [I begun] 3)]++(G5++(markB (dm1::[])))) js (ag1 ((oT++[y2.No]),ob3,oc3,G5) hs16 ⟨gr5,lo⟩))))))))))
 ·exact xf
 exact xf
theorem wF (h:HF) (mode:Int) (permits:List Bool) (m9:Option Addr) (m8:Nat) (hpermits:SlC Rp.bool h m9 m8 permits):Ret prog 190 [I mode,.slice m9 permits.length m8] h (I (jg mode permits)):=by
 refine sT func190 U ntmps190 U fun X hM hX hF=>?_
 have hs0:jg mode permits=jg mode permits:=rfl
 refine qT 7 U (aF (cY call87 (pD h) U (fun v1 h1 hle1 hp1=>?_)))
 obtain ⟨rk1,rfl,mo1⟩:=hp1
 refine aj ?_
 obtain ⟨o1,hb1,hm1⟩:=mo1
 refine aF (qw (k:=mode) Ez (eY lS) hb1 hm1 (eG zv152) (show VFn _ (.nilFunc) Value.nilFunc from U) U U (fun v2 hv1=>?_))
 obtain rfl:=hv1
 refine qO 11 U (ai hs0 U (fun c1 hs1=>?_) (fun c1 hs2=>?_))
 ·exact sr (an (nretP [I 270] (ci hs1)))
 refine qK 8 [] U (ai hs2 U (fun c2 hs4=>?_) (fun c2 hs5=>?_))
 ·have c2p:=of_decide_eq_true c2
  exact sr (an (nretP [I 1] (ci hs4)))
 have c2p:=of_decide_eq_false c2
 exact aJ (qT 4 U (nretP [I 0] (ci hs5)))
theorem rk (h:HF) (s:List Bool) (pL:Option Addr) (pK:Nat) (f:(Bool→Bool)) (f_v:Value) (hs:SlC Rp.bool h pL pK s) (hf:∀ (h':HF) (dB:Bool),HF.le h h'→rH prog f_v [.bool dB] h' [] (.bool (f dB))):Ret prog 287 [.slice pL s.length pK,f_v] h (I (eN s f)):=by
 refine sT func287 U ntmps287 U fun X hM hX hF=>?_
 have hs0:eN s f=eN s f:=rfl
 refine qK 11 [] U ?_
 refine lp0 s (fun i=>[(0,.slice pL s.length pK),(1,f_v),(7,I (s.length:Int)),(8,I (i:Int))]) ([]) (fun s1 i=>(eN.L1 f (eN.K1)) s1 i) hs.1.1 hs0 ?_ ?_
 ·rintro i1 fA hs1 e
  exact sr (an (nretP [I (-1)] (ci hs1)))
 rintro i1 y1 rz1 hd1 dx aL eH hO hs3 hx1 ag1 e
 refine sr (aw (v':=.bool true) U (cb dx) (qO 16 U (aF (fj (enc:=fun y=>[.bool y]) ei CY ty4 hs.1 (nthZ aL) (ba aL) U U U (fun q2 A2=>dF ty4 A2 U (aF (kH (v:=.bool (f y1)) [] (List.nil_sublist _) (hf h y1 lf) U U (aD (ai hs3 U (fun c2 hs4=>?_) (fun c2 hs5=>?_))))))))))
 ·exact sr (qO 3 U (nretP [I (i1:Int)] (ci hs4)))
 exact aJ (qT 2 U (aw (v':=I (((i1+1):Nat):Int)) U (bw ob) (qO 2 U (ag1 hs5))))
theorem nN (h:HF) (l:List Bool) (e8:Option Addr) (eZ:Nat) (ok:(Bool→Bool)) (ok_v:Value) (hl:SlC Rp.bool h e8 eZ l) (hok:∀ (h':HF) (dB:Bool),HF.le h h'→rH prog ok_v [.bool dB] h' [] (.bool (ok dB))):Ret prog 191 [.slice e8 l.length eZ,ok_v] h (I (cI l ok)):=by
 refine sT func191 U ntmps191 U fun X hM hX hF=>?_
 have hs0:cI l ok=cI l ok:=rfl
 exact sr (qO 6 U (av call287 (rk _ _ _ _ ok ok_v hl hok) U (an (nretP [I (eN l ok)] (ci hs0)))))
theorem tH (h:HF) (zt:Bool)  : Ret prog 192 [.bool zt] h (.bool (ey zt)):=by
 refine sT func192 U ntmps192 U fun X hM hX hF=>?_
 have hs0:ey zt=ey zt:=rfl
 exact sr (qO 7 U (nretP [.bool zt] (cs hs0)))
theorem tG (h:HF) (zt:Bool)  : Ret prog 193 [.bool zt] h (.bool (fu zt)):=by
 refine sT func193 U ntmps193 U fun X hM hX hF=>?_
 have hs0:fu zt=fu zt:=rfl
 exact sr (qO 8 U (nretP [.bool (!zt)] (cs hs0)))
theorem vN (h:HF) (mode:Int) (permits:List Bool) (m9:Option Addr) (m8:Nat) (hpermits:SlC Rp.bool h m9 m8 permits) (hsz0:permits.length≤2000000):jN prog 98 [I mode,.slice m9 permits.length m8] h (fun v h'=>∃ (rb0:Option Addr) (rc0:Nat),v=.tuple #[.slice rb0 ((bD mode permits).1).length rc0,.bool ((bD mode permits).2.1),I ((bD mode permits).2.2)]∧SlC Rp.int h' rb0 rc0 ((bD mode permits).1)):=by
 refine sT func98 U ntmps98 U fun X hM hX hF=>?_
 have hs0:bD mode permits=bD mode permits:=rfl
 refine qT 11 U (av call190 (wF _ mode _ _ _ hpermits) U (qO 7 U (ai hs0 U (fun c1 hs1=>?_) (fun c1 hs2=>?_))))
 ·refine qT 7 U ?_
  have hs3:bD mode permits=([],false,(jg mode permits)):=hs1
  exact nretH [.slice none 0 0,.bool false,I (jg mode permits)] ⟨none,0,congrArg (fun r:(List Int×Bool×Int)=>(.tuple #[.slice none r.1.length 0,.bool r.2.1,I r.2.2]:Value)) hs3.symm,(by rw [hs3];exact SlC.nil)⟩
 refine qT 4 U (av call191 (nN _ _ _ _ ey (.func (.func 192) #[] #[]) hpermits (fun h' dB hle =>iu call192 (tH h' dB))) U (qO 5 U (av call191 (nN _ _ _ _ fu (.func (.func 193) #[] #[]) hpermits (fun h' dB hle =>iu call193 (tG h' dB))) U (qO 9 U (bC 3 [23,24,25,26] 23 26 (decide (0≤(cI permits ey))) U (fun c2 hk1=>?_) (fun e=>?_))))))
 ·exact aj (qO 2 U (hk1 _ U))
 refine an (ai hs2 U (fun c3 hs4=>?_) (fun c3 hs5=>?_))
 ·refine qT 3 U (aF (bV (cells:=[I (cI permits ey)]) fa ty3 zc3 U U kr (fun b1=>qO 4 U (eI 0 U hM (fun h1 hle1 hb1=>?_)))))
  have sl1:SlC Rp.int h1 (some ⟨b1,0,none⟩) 1 ([(cI permits ey)]):=bu.slB0 (T:=3) (fz:=(0,0)) ((show bu Rp.int h [I (cI permits ey)] ([(cI permits ey)]) from ⟨[I (cI permits ey)],[],rfl,rfl,rfl,rfl⟩).mono Rp.aY hle1) hb1
  have hs6:bD mode permits=([(cI permits ey)],true,0):=hs4
  exact nretH [.slice (some ⟨b1,0,none⟩) 1 1,.bool true,I 0] ⟨(some ⟨b1,0,none⟩),1,congrArg (fun r:(List Int×Bool×Int)=>(.tuple #[.slice (some ⟨b1,0,none⟩) r.1.length 1,.bool r.2.1,I r.2.2]:Value)) hs6.symm,(by rw [hs6];exact sl1)⟩
 refine qT 5 U (bC 3 [32,33,34,35] 32 35 (decide (0≤(cI permits fu))) U (fun c4 hk2=>?_) (fun e=>?_))
 ·exact aj (qO 2 U (hk2 _ U))
 refine an (ai hs5 U (fun c5 hs7=>?_) (fun c5 hs8=>?_))
 ·refine qT 3 U (aF (bV (cells:=[I (cI permits fu)]) fa ty3 zc3 U U kr (fun b2=>qO 4 U (eI 0 U hM (fun h2 hle2 hb2=>?_)))))
  have sl2:SlC Rp.int h2 (some ⟨b2,0,none⟩) 1 ([(cI permits fu)]):=bu.slB0 (T:=3) (fz:=(0,0)) ((show bu Rp.int h [I (cI permits fu)] ([(cI permits fu)]) from ⟨[I (cI permits fu)],[],rfl,rfl,rfl,rfl⟩).mono Rp.aY hle2) hb2
  have hs9:bD mode permits=([(cI permits fu)],false,0):=hs7
  exact nretH [.slice (some ⟨b2,0,none⟩) 1 1,.bool false,I 0] ⟨(some ⟨b2,0,none⟩),1,congrArg (fun r:(List Int×Bool×Int)=>(.tuple #[.slice (some ⟨b2,0,none⟩) r.1.length 1,.bool r.2.1,I r.2.2]:Value)) hs9.symm,(by rw [hs9];exact sl2)⟩
 refine qT 6 U (ai hs8 U (fun c6 hs10=>?_) (fun c6 hs11=>?_))
 ·refine qK 13 [] U ?_
  refine lp2 permits (fun i w=>[(4,.slice w.2.1 w.1.length w.2.2.1),(5,.bool (decide (0≤(cI permits ey)))),(55,I (permits.length:Int)),(56,I (i:Int))]) (fun _=>h) (fun w=>w.2.2.2) (fun i w=>em Rp.int 3 h w.1 w.2.1 w.2.2.1 w.2.2.2∧w.1.length≤0+i) (fun s1 i w=>(bD.L1 (bD.K1 permits)) s1 i w.1) ([],none,0,[]) hpermits.1.1 hs10 ⟨em.nil,lo⟩ ?_ ?_
  ·rintro i1 ⟨CJ,HM,HL,L7⟩ fA hs12 ⟨FK,Kt⟩ e
   try dsimp only at FK Kt
   refine qT 8 U (gL Rp.aY ([]) L7 ([]) ap hM FK (fun h4 hle4 sl4=>?_))
   have hs13:bD mode permits=(CJ,decide (0≤(cI permits ey)),0):=hs12
   exact nretH [.slice HM CJ.length HL,.bool (decide (0≤(cI permits ey))),I 0] ⟨HM,HL,congrArg (fun r:(List Int×Bool×Int)=>(.tuple #[.slice HM r.1.length HL,.bool r.2.1,I r.2.2]:Value)) hs13.symm,(by rw [hs13];exact sl4)⟩
  rintro i1 ⟨CJ,HM,HL,L7⟩ y1 rz1 hd1 dx aL eH hO hs14 ⟨FK,Kt⟩ hx1 ag1 e
  try dsimp only at FK Kt
  exact sr (aw (v':=.bool true) U (cb dx) (qO 14 U (aF (bV (cells:=[I (i1:Int)]) fa ty3 zc3 U U kr (fun b4=>aF (eR Rp.kR ([(b4,O [I (i1:Int)] 3)]) ([]) (fun G=>[(b4,O [I (i1:Int)] 3)]++G) ap (fun _=>ap) fa ty3 zc3 U bytes3 FK U U (fI 0 U (show bu Rp.int h [I (i1:Int)] ([(i1:Int)]) from ⟨[I (i1:Int)],[],U,U,U,U⟩)) lo lo (fun ob2 oc2 G2 gr2=>qO 4 U (aw (v':=I (((i1+1):Nat):Int)) U (bw ob) (qO 2 U (bB (L':=G2) js (ag1 ((CJ++[(i1:Int)]),ob2,oc2,G2) hs14 ⟨gr2,lo⟩)))))))))))
 refine qT 6 U (ai hs11 U (fun c7 hs15=>?_) (fun c7 hs16=>?_))
 ·refine qK 5 [] U (bC 4 [49,50,51,52,53] 49 53 (nthI permits 0) U (fun c8 hk3=>?_) (fun e=>?_))
  ·refine aj ?_
   have ho1:0≤(0:Int)∧(0:Int) < ((permits).length:Int):=ob
   exact aF (fj (enc:=fun y=>[.bool y]) ei CY ty4 hpermits.1 ho1 (dU ho1) U U U (fun q1 A1=>dF ty4 A1 U (ek U (hk3 _ U))))
  refine qL 10 [] U ?_
  refine lp2 permits (fun i w=>[(4,.slice w.2.1 w.1.length w.2.2.1),(5,.bool (((permits.length:Int)==1)&&(nthI permits 0))),(55,I (permits.length:Int)),(56,I (i:Int))]) (fun _=>h) (fun w=>w.2.2.2) (fun i w=>em Rp.int 3 h w.1 w.2.1 w.2.2.1 w.2.2.2∧w.1.length≤0+i) (fun s2 i w=>(bD.L2 (bD.K2 permits)) s2 i w.1) ([],none,0,[]) hpermits.1.1 hs15 ⟨em.nil,lo⟩ ?_ ?_
  ·rintro i2 ⟨CI,HK,HJ,LZ⟩ zJ hs17 ⟨FD,Ko⟩ e
   try dsimp only at FD Ko
   refine qT 8 U (gL Rp.aY ([]) LZ ([]) ap hM FD (fun h6 hle6 sl6=>?_))
   have hs18:bD mode permits=(CI,(((permits.length:Int)==1)&&(nthI permits 0)),0):=hs17
   exact nretH [.slice HK CI.length HJ,.bool (((permits.length:Int)==1)&&(nthI permits 0)),I 0] ⟨HK,HJ,congrArg (fun r:(List Int×Bool×Int)=>(.tuple #[.slice HK r.1.length HJ,.bool r.2.1,I r.2.2]:Value)) hs18.symm,(by rw [hs18];exact sl6)⟩
  rintro i2 ⟨CI,HK,HJ,LZ⟩ y2 rz2 hd2 uv mN BA GF hs19 ⟨FD,Ko⟩ hx2 ag2 e
  try dsimp only at FD Ko
  exact sr (aw (v':=.bool true) U (cb uv) (qO 14 U (aF (bV (cells:=[I (i2:Int)]) fa ty3 zc3 U U kr (fun b6=>aF (eR Rp.kR ([(b6,O [I (i2:Int)] 3)]) ([]) (fun G=>[(b6,O [I (i2:Int)] 3)]++G) ap (fun _=>ap) fa ty3 zc3 U bytes3 FD U U (fI 0 U (show bu Rp.int h [I (i2:Int)] ([(i2:Int)]) from ⟨[I (i2:Int)],[],U,U,U,U⟩)) lo lo (fun ob4 oc4 G4 gr4=>qO 4 U (aw (v':=I (((i2+1):Nat):Int)) U (bw ob) (qO 2 U (bB (L':=G4) js (ag2 ((CI++[(i2:Int)]),ob4,oc4,G4) hs19 ⟨gr4,lo⟩)))))))))))
 refine qK 9 [] U ?_
 refine lp2 permits (fun i w=>[(4,.slice w.2.1 w.1.length w.2.2.1),(5,.bool false),(55,I (permits.length:Int)),(56,I (i:Int))]) (fun _=>h) (fun w=>w.2.2.2) (fun i w=>em Rp.int 3 h w.1 w.2.1 w.2.2.1 w.2.2.2∧w.1.length≤0+i) (fun s3 i w=>(bD.L3 (bD.K3)) s3 i w.1) ([],none,0,[]) hpermits.1.1 hs16 ⟨em.nil,lo⟩ ?_ ?_
 ·rintro i3 ⟨CH,HI,HH,LY⟩ MQ hs20 ⟨FC,Kn⟩ e
  try dsimp only at FC Kn
  refine qT 8 U (gL Rp.aY ([]) LY ([]) ap hM FC (fun h8 hle8 sl8=>?_))
  have hs21:bD mode permits=(CH,false,0):=hs20
  exact nretH [.slice HI CH.length HH,.bool false,I 0] ⟨HI,HH,congrArg (fun r:(List Int×Bool×Int)=>(.tuple #[.slice HI r.1.length HH,.bool r.2.1,I r.2.2]:Value)) hs21.symm,(by rw [hs21];exact sl8)⟩
 rintro i3 ⟨CH,HI,HH,LY⟩ y3 rz3 hd3 D9 sZ HE Lu hs22 ⟨FC,Kn⟩ hx3 ag3 e
 try dsimp only at FC Kn
 exact sr (aw (v':=.bool true) U (cb D9) (qO 14 U (aF (bV (cells:=[I (i3:Int)]) fa ty3 zc3 U U kr (fun b8=>aF (eR Rp.kR ([(b8,O [I (i3:Int)] 3)]) ([]) (fun G=>[(b8,O [I (i3:Int)] 3)]++G) ap (fun _=>ap) fa ty3 zc3 U bytes3 FC U U (fI 0 U (show bu Rp.int h [I (i3:Int)] ([(i3:Int)]) from ⟨[I (i3:Int)],[],U,U,U,U⟩)) lo lo (fun ob6 oc6 G6 gr6=>qO 4 U (aw (v':=I (((i3+1):Nat):Int)) U (bw ob) (qO 2 U (bB (L':=G6) js (ag3 ((CH++[(i3:Int)]),ob6,oc6,G6) hs22 ⟨gr6,lo⟩)))))))))))
theorem vP (h:HF) (mode:Int) (permits:List Bool) (m9:Option Addr) (m8:Nat) (hpermits:SlC Rp.bool h m9 m8 permits) (hsz0:permits.length≤2000000):Ret prog 26 [I mode,.slice m9 permits.length m8] h (.tuple #[.bool ((iQ mode permits).1),I ((iQ mode permits).2)]):=by
 refine sT func26 U ntmps26 U fun X hM hX hF=>?_
 have hs0:iQ mode permits=iQ mode permits:=rfl
 refine qT 9 U (aF (cY call98 (vN _ mode _ _ _ hpermits ob) U (fun v1 h1 hle1 hp1=>?_)))
 obtain ⟨rb1,rc1,rfl,sl1⟩:=hp1
 refine qO 14 U ?_
 have hs1:iQ mode permits=((bD mode permits).2.1,(bD mode permits).2.2):=hs0
 exact nretP [.bool ((bD mode permits).2.1),I ((bD mode permits).2.2)] (congrArg (fun r:(Bool×Int)=>(.tuple #[.bool r.1,I r.2]:Value)) hs1.symm)
theorem zN (h:HF) (u:List Use) (zR:Option Addr) (zQ:Nat) (hu:SlC Use.rp h zR zQ u):Ret prog 99 [.slice zR u.length zQ] h (.bool (iR u)):=by
 refine sT func99 U ntmps99 U fun X hM hX hF=>?_
 have hs0:iR u=iR u:=rfl
 refine qT 6 U (aF (mr (fun b1=>qL 9 [] U ?_)))
 refine lp2 u (fun i w=>[(3,.map (some b1)),(7,.slice zR u.length zQ),(8,I (u.length:Int)),(9,I (i:Int))]) (fun _=>h) (fun w=>[(b1,w.2)]) (fun i w=>iL (Value.int .i64) kW h w.2 w.1∧w.1.length≤0+i) (fun s1 i w=>(iR.L1 (iR.K1)) s1 w.1) ([],.map #[] 0) hu.1.1 hs0 ⟨(iL.nil (enc:=(Value.int .i64)) (V:=kW) (h:=h)),lc⟩ ?_ ?_
 ·rintro i1 ⟨bz,gS⟩ fA hs1 ⟨fo,mm⟩ e
  exact sr (an (nretP [.bool true] (cs hs1)))
 rintro i1 ⟨bz,gS⟩ y1 rz1 hd1 dx aL eH hO hs3 ⟨fo,mm⟩ hx1 ag1 e
 refine sr (aw (v':=.bool true) U (cb dx) (qO 8 U (aF (fj (enc:=Use.cells) ei underlying32 ty111 hu.1 (nthZ aL) (ba aL) U U U (fun q2 A2=>dz ty111 A2 U U (aV zc111 (fun b4=>aS 0 ty111 U U U U U U (qL 7 [0] U (aF (mJ 1 (k:=y1.Doc) yG (eY lS) U fo (eG zv4) (show kW _ (.bool false) false from U) U U (fun v2 hv2=>?_)))))))))))
 obtain rfl:=hv2
 refine aj (bY 6 [17,18,19,20,21,22,23] 17 23 (!(aU 0 4095 ([y1.Doc]))) U (fun c1 hk1=>?_) (fun e=>?_))
 ·refine qL 2 [0] U (aF (bV (cells:=[I y1.Doc]) fa ty3 zc3 U U kr (fun b5=>aT 0 U hM (fun h2 hle2 hb2=>?_))))
  have sl2:SlC Rp.int h2 (some ⟨b5,0,none⟩) 1 ([y1.Doc]):=bu.slB0 (T:=3) (fz:=(0,0)) ((show bu Rp.int h [I y1.Doc] ([y1.Doc]) from ⟨[I y1.Doc],[],rfl,rfl,rfl,rfl⟩).mono Rp.aY hle2) hb2
  exact av td (dK _ 0 4095 _ _ _ sl2) U (qO 2 U (jP (h:=h) hle2 hX lf (hk1 _ U)))
 refine aj (bY 6 [24,25,26,27,28,29,30] 24 30 (!(aU 0 15 ([y1.Kind]))) U (fun c2 hk2=>?_) (fun e=>?_))
 ·refine qL 2 [0] U (aF (bV (cells:=[I y1.Kind]) fa ty3 zc3 U U kr (fun b6=>aT 0 U hM (fun h3 hle3 hb3=>?_))))
  have sl3:SlC Rp.int h3 (some ⟨b6,0,none⟩) 1 ([y1.Kind]):=bu.slB0 (T:=3) (fz:=(0,0)) ((show bu Rp.int h [I y1.Kind] ([y1.Kind]) from ⟨[I y1.Kind],[],rfl,rfl,rfl,rfl⟩).mono Rp.aY hle3) hb3
  exact av td (dK _ 0 15 _ _ _ sl3) U (qO 2 U (jP (h:=h) hle3 hX lf (hk2 _ U)))
 refine aj (bY 6 [31,32,33,34,35,36,37] 31 37 (!(aU 0 1099511627776 ([y1.Value]))) U (fun c3 hk3=>?_) (fun e=>?_))
 ·refine qL 2 [0] U (aF (bV (cells:=[I y1.Value]) fa ty3 zc3 U U kr (fun b7=>aT 0 U hM (fun h4 hle4 hb4=>?_))))
  have sl4:SlC Rp.int h4 (some ⟨b7,0,none⟩) 1 ([y1.Value]):=bu.slB0 (T:=3) (fz:=(0,0)) ((show bu Rp.int h [I y1.Value] ([y1.Value]) from ⟨[I y1.Value],[],rfl,rfl,rfl,rfl⟩).mono Rp.aY hle4) hb4
  exact av td (dK _ 0 1099511627776 _ _ _ sl4) U (qO 2 U (jP (h:=h) hle4 hX lf (hk3 _ U)))
 refine aj (bY 8 [38,39,40,41,42,43,44,45,46] 38 46 (!(aU 0 1099511627775 ([y1.At,y1.Known]))) U (fun c4 hk4=>?_) (fun e=>?_))
 ·refine qL 4 [0,0] U (aF (bV (cells:=[I y1.At,I y1.Known]) fa ty3 zc3 U U kr (fun b8=>aT 0 U hM (fun h5 hle5 hb5=>?_))))
  have sl5:SlC Rp.int h5 (some ⟨b8,0,none⟩) 2 ([y1.At,y1.Known]):=bu.slB0 (T:=3) (fz:=(0,0)) ((show bu Rp.int h [I y1.At,I y1.Known] ([y1.At,y1.Known]) from ⟨[I y1.At],[I y1.Known],rfl,rfl,rfl,⟨[I y1.Known],[],rfl,rfl,rfl,rfl⟩⟩).mono Rp.aY hle5) hb5
  exact av td (dK _ 0 1099511627775 _ _ _ sl5) U (qO 2 U (jP (h:=h) hle5 hX lf (hk4 _ U)))
 refine aD (ai hs3 U (fun c5 hs4=>?_) (fun c5 hs5=>?_))
 ·exact sr (an (nretP [.bool false] (cs hs4)))
 exact qK 5 [0] U (aF (jJ 1 (k:=y1.Doc) (x:=true) yG (eY lS) U fo U U U (fun mo1 hm1=>qO 3 U (aw (v':=I (((i1+1):Nat):Int)) U (bw ob) (qO 2 U (bB (L':=[(b1,mo1)]) js (ag1 ((mput bz y1.Doc true),mo1) hs5 ⟨hm1,(by have:=ly bz y1.Doc true;first | omega | (simp only [List.length_nil,List.length_cons] at *;omega))⟩)))))))
theorem vv (h:HF) (l:List Budget) (e8:Option Addr) (eZ:Nat) (kind:Int) (cv:Int) (known:Int) (hl:SlC Budget.rp h e8 eZ l) (hsz0:l.length≤2000000):jN prog 101 [.slice e8 l.length eZ,I kind,I cv,I known] h (fun v h'=>∃ (rb0:Option Addr) (rc0:Nat),v=.slice rb0 (bQ l kind cv known).length rc0∧SlC Budget.rp h' rb0 rc0 (bQ l kind cv known)):=by
 refine sT func101 U ntmps101 U fun X hM hX hF=>?_
 have hs0:bQ l kind cv known=bQ l kind cv known:=rfl
 refine qT 6 U (aF (mr (fun b1=>qL 9 [] U ?_)))
 refine lp2 l (fun i w=>[(0,.slice e8 l.length eZ),(1,I kind),(2,I cv),(3,I known),(8,.slice none 0 0),(9,.map (some b1)),(18,.slice e8 l.length eZ),(19,I (l.length:Int)),(20,I (i:Int))]) (fun _=>h) (fun w=>[(b1,w.2)]) (fun i w=>iL gx.enc (iH Budget.rp) h w.2 w.1∧w.1.length≤0+i) (fun s1 i w=>(bQ.L1 kind cv known (bQ.K1 l)) s1 w.1) ([],.map #[] 0) hl.1.1 hs0 ⟨(iL.nil (enc:=gx.enc) (V:=(iH Budget.rp)) (h:=h)),lc⟩ ?_ ?_
 ·rintro i1 ⟨bz,gS⟩ fA hs1 ⟨fo,mm⟩ e
  try dsimp only at fo mm
  refine qK 7 [] U ?_
  refine lp2 l (fun i w=>[(8,.slice w.2.1 w.1.length w.2.2.1),(9,.map (some b1)),(69,.slice e8 l.length eZ),(70,I (l.length:Int)),(71,I (i:Int))]) (fun _=>h) (fun w=>[(b1,gS)]++(w.2.2.2)) (fun i w=>em Budget.rp 101 h w.1 w.2.1 w.2.2.1 w.2.2.2∧w.1.length≤0+i) (fun s2 i w=>(bQ.L2 bz (bQ.K2)) s2 w.1) ([],none,0,[]) hl.1.1 hs1 ⟨em.nil,lo⟩ ?_ ?_
  ·rintro i2 ⟨oT,uy,ux,vI⟩ zJ hs2 ⟨s5,BF⟩ e
   try dsimp only at s5 BF
   refine qT 5 U (gL Budget.ao ([(b1,gS)]) vI ([]) ap hM s5 (fun h1 hle1 sl1=>?_))
   have hs3:bQ l kind cv known=oT:=hs2
   exact nretH [.slice uy oT.length ux] ⟨uy,ux,congrArg (fun r:List Budget=>(.slice uy r.length ux:Value)) hs3.symm,(by rw [hs3];exact sl1)⟩
  rintro i2 ⟨oT,uy,ux,vI⟩ y2 rz2 hd2 uv mN BA GF hs4 ⟨s5,BF⟩ hx2 ag1 e
  try dsimp only at s5 BF
  refine sr (aw (v':=.bool true) U (cb uv) (qO 8 U (aF (fj (enc:=Budget.cells) ei vy ty101 hl.1 (nthZ mN) (ba mN) U U U (fun q3 A3=>dz ty101 A3 U U (aV zc101 (fun b4=>aS 0 ty101 U U U U U U (iw (L':=[(b4,O (Budget.cells y2) 101),(b1,gS)]++(vI)) U (qO 2 U ?_)))))))))
  refine nZ [(8,.slice uy oT.length ux),(9,.map (some b1)),(16,Q b4),(69,.slice e8 l.length eZ),(70,I (l.length:Int)),(71,I (i2:Int)),(88,.bool ((!y2.Gone)&&(decide ((mgetD bz (gx.mk y2.Kind y2.Period) (Budget.mk 0 0 0 0 0 0 0 false))=y2))))] (fun e=>?_) (fun hk1=>?_)
  rotate_left
  ·let z2:Nat×Obj:=(b4,O (Budget.cells y2) 101)
   refine eQ ([z2,(b1,gS)]) mixed kr jn (fun dH _=>?_)
   refine qB [0] U (tf 1 U U (fun _ _ hj=>fH ty4 U (hj.nth (i:=0) U) U) (qA [2,3] U ?_))
   refine dt 78 U (fun c1=>?_) (fun c1=>?_)
   ·refine qB [4,5] U (tf 6 U U (fun _ _ hj=>fH ty3 U (hj.nth (i:=0) U) U) (qB [7] U (tf 8 U U (fun _ _ hj=>fH ty3 U (hj.nth (i:=0) U) U) (tf 11 U U (fun _ _ hj=>je ty101 U (hj.nth (i:=0) U) U) (tn 9 U (fw (cells:=[I y2.Kind,I y2.Period]) (places:=[(0,1),(1,1)]) Hh zc267 kr kr (⟨jn,tn 10 U (mJ 1 (k:=(gx.mk y2.Kind y2.Period)) underlying265 ul U fo (eG zv101) (show (iH Budget.rp) _ (.agg (List.toArray [I 0,I 0,I 0,I 0,I 0,I 0,I 0,.bool false])) (Budget.mk 0 0 0 0 0 0 0 false) from ⟨_,U,U⟩) U U (fun v2 hv2=>?_))⟩)))))))
    obtain ⟨_,rfl,rfl⟩:=hv2
    exact ⟨jn,(tf 12 U U (fun _ _ _=>Hv (GL (mgetD bz (gx.mk y2.Kind y2.Period) (Budget.mk 0 0 0 0 0 0 0 false)) y2) eqg101 U U) (qA [13] U (aW kr (hk1 _ ⟨U,U,U,U,U,U,(cb (show (decide ((mgetD bz (gx.mk y2.Kind y2.Period) (Budget.mk 0 0 0 0 0 0 0 false))=y2))=((!y2.Gone)&&(decide ((mgetD bz (gx.mk y2.Kind y2.Period) (Budget.mk 0 0 0 0 0 0 0 false))=y2))) from by rw [c1] <;> rfl)),trivial⟩))))⟩
   exact tk 4 U U (qR 5 9 U (aW kr (hk1 _ ⟨U,U,U,U,U,U,(cb (show false=((!y2.Gone)&&(decide ((mgetD bz (gx.mk y2.Kind y2.Period) (Budget.mk 0 0 0 0 0 0 0 false))=y2))) from by rw [c1] <;> rfl)),trivial⟩)))
  refine ai hs4 U (fun c2 hs5=>?_) (fun c2 hs6=>?_)
  ·refine qT 2 U (cW 0 ty101 U U U (aF (bV (cells:=[I y2.No,I y2.At,I y2.Known,I y2.Kind,I y2.Period,I y2.Count,I y2.Value,.bool y2.Gone]) vy ty101 zc101 U U kr (fun b5=>?_))))
   let z1:Nat×Obj:=(b5,O [I y2.No,I y2.At,I y2.Known,I y2.Kind,I y2.Period,I y2.Count,I y2.Value,.bool y2.Gone] 101)
   exact aF (eR Budget.eF ([z1,(b4,O (Budget.cells y2) 101),(b1,gS)]) ([]) (fun G=>[z1,(b4,O (Budget.cells y2) 101),(b1,gS)]++G) ap (fun _=>ap) vy ty101 zc101 U bytes101 s5 U U (fI 0 U (show bu Budget.rp h [I y2.No,I y2.At,I y2.Known,I y2.Kind,I y2.Period,I y2.Count,I y2.Value,.bool y2.Gone] ([y2]) from ⟨[I y2.No,I y2.At,I y2.Known,I y2.Kind,I y2.Period,I y2.Count,I y2.Value,.bool y2.Gone],[],U,U,U,U⟩)) lo lo (fun ob1 oc1 G1 gr1=>qO 4 U (aw (v':=I (((i2+1):Nat):Int)) U (bw ob) (qO 2 U (bB (L':=[(b1,gS)]++G1) js (ag1 ((oT++[y2]),ob1,oc1,G1) hs5 ⟨gr1,lo⟩))))))
  exact aJ (qT 2 U (aw (v':=I (((i2+1):Nat):Int)) U (bw ob) (qO 2 U (bB (L':=[(b1,gS)]++(vI)) js (ag1 (oT,uy,ux,vI) hs6 ⟨s5,lo⟩)))))
 rintro i1 ⟨bz,gS⟩ y1 rz1 hd1 dx aL eH hO hs7 ⟨fo,mm⟩ hx1 ag2 e
 try dsimp only at fo mm
 refine sr (aw (v':=.bool true) U (cb dx) (qO 8 U (aF (fj (enc:=Budget.cells) ei vy ty101 hl.1 (nthZ aL) (ba aL) U U U (fun q4 A4=>dz ty101 A4 U U (aV zc101 (fun b6=>aS 0 ty101 U U U U U U (qL 9 [0] U (bY 5 [28,29,30,31,32,33] 28 33 (decide (known < y1.Known)) U (fun c3 hk2=>?_) (fun e=>?_))))))))))
 ·exact qL 5 [0] U (hk2 _ U)
 refine aj (bY 10 [34,35,36,37,38,39,40,41,42,43,44] 34 44 ((y1.Kind != (-1))&&(y1.Kind != kind)) U (fun c4 hk3=>?_) (fun e=>?_))
 ·refine qL 4 [0] U (bC 5 [38,39,40,41,42,43] 38 43 (y1.Kind != kind) U (fun c5 hk4=>?_) (fun e=>?_))
  ·exact qL 5 [0] U (hk4 _ U)
  exact ek U (hk3 _ U)
 refine aD (ai hs7 U (fun c6 hs8=>?_) (fun c6 hs9=>?_))
 ·exact kv U (ay (aw (v':=I (((i1+1):Nat):Int)) U (bw ob) (qO 2 U (bB (L':=[(b1,gS)]) js (ag2 (bz,gS) hs8 ⟨fo,lc⟩)))))
 refine qK 7 [0,0] U (aF (fw (cells:=[I y1.Kind,I y1.Period]) (places:=[(0,1),(1,1)]) Hh zc267 kr kr (aV zc267 (fun b7=>aS 0 ty267 U U U U U U (qO 4 U (cW 0 ty267 U U U (aF (kh 2 (k:=(gx.mk y1.Kind y1.Period)) underlying265 ul U fo (eG zv101) (show (iH Budget.rp) _ (.agg (List.toArray [I 0,I 0,I 0,I 0,I 0,I 0,I 0,.bool false])) (Budget.mk 0 0 0 0 0 0 0 false) from ⟨_,U,U⟩) U U (fun v3 hv3=>?_)))))))))
 obtain ⟨_,rfl,rfl⟩:=hv3
 refine qO 3 U (aV zc101 (fun b8=>aS 0 ty101 U U U U U U (qO 7 U (bY 6 [58,59,60,61,62,63,64] 58 64 (decide ((mgetD bz (gx.mk y1.Kind y1.Period) (Budget.mk 0 0 0 0 0 0 0 false)).At≤y1.At)) U (fun c7 hk5=>?_) (fun e=>?_)))))
 ·exact qL 6 [0,2] U (hk5 _ U)
 refine aD (ai hs9 U (fun c8 hs10=>?_) (fun c8 hs11=>?_))
 ·exact ay (aj (cW 1 ty267 U U U (cW 2 ty101 U U U (aF (jJ 3 (k:=(gx.mk y1.Kind y1.Period)) (x:=y1) underlying265 ul U fo U U ⟨_,U,U⟩ (fun mo1 hm1=>qO 3 U (aw (v':=I (((i1+1):Nat):Int)) U (bw ob) (qO 2 U (bB (L':=[(b1,mo1)]) js (ag2 ((mput bz (gx.mk y1.Kind y1.Period) y1),mo1) hs10 ⟨hm1,(by have:=ly bz (gx.mk y1.Kind y1.Period) y1;first | omega | (simp only [List.length_nil,List.length_cons] at *;omega))⟩))))))))))
 exact aJ (qT 2 U (aw (v':=I (((i1+1):Nat):Int)) U (bw ob) (qO 2 U (bB (L':=[(b1,gS)]) js (ag2 (bz,gS) hs11 ⟨fo,lc⟩)))))
theorem xK (h:HF) (u:List Use) (zR:Option Addr) (zQ:Nat) (u_q:Addr) (known:Int) (known_q:Addr) (bg:Budget) (bg_q:Addr) (at_:Int) (at__q:Addr) (hu:SlC Use.rp h zR zQ u) (au:At h u_q [.slice zR u.length zQ]) (aknown:At h known_q [I known]) (abg:At h bg_q (Budget.cells bg)) (aat_:At h at__q [I at_]) (hbp:bg.Period≠0):Itr prog (.func (.func 195) #[] (List.toArray [.pointer (some u_q),.pointer (some known_q),.pointer (some bg_q),.pointer (some at__q)])) uS (cm u known bg at_) h:=by
 refine pU call195 ?_
 intro yf ya yb C Sp Pn h1 A hle m1 m2 m3 hC hy
 refine iV wG U ntmps195 U fun X hXM hX=>?_
 have hs0:cm u known bg at_=[]++cm u known bg at_:=rfl
 refine sr (dF ty32 (au.mono hle) U (qL 3 [] U ?_))
 refine lp2 u (fun i w=>[(0,.func yf ya yb),(2,.pointer (some known_q)),(3,.pointer (some bg_q)),(4,.pointer (some at__q)),(8,.slice zR u.length zQ),(9,I (u.length:Int)),(10,I (i:Int))]) (fun w=>w.2.2) (fun w=>w.2.1) (fun i w=>C w.1 w.2.2 w.2.1∧HF.le h1 w.2.2) (fun s1 i w=>w.1++(cm.L1 known bg at_ (cm.K1)) s1) ([],A,h1) ((hu.mono Use.ao hle).1.1) hs0 ⟨hC,lf⟩ ?_ ?_
 ·rintro i1 ⟨dn1,A1_,hh1⟩ fA hs1 ⟨hC1_,hl1⟩ e
  refine dY ?_
  have hs2:cm u known bg at_=dn1:=hs1.trans (List.append_nil _)
  exact pV [] (A:=A1_) wG U (List.Sublist.refl _) (.inl (hs2 ▸ hC1_))
 rintro i1 ⟨dn1,A1_,hh1⟩ y1 rz1 hd1 dx aL eH hO hs3 ⟨hC1_,hl1⟩ hx1 ag1 e
 refine sr (aw (v':=.bool true) U (cb dx) (qO 8 U (aF (fj (enc:=Use.cells) ei underlying32 ty111 (hu.mono Use.ao (hle.t hl1)).1 (nthZ aL) (ba aL) U U U (fun q2 A2=>dz ty111 A2 U U (aV zc111 (fun b2=>aS 0 ty111 U U U U U U (iw (L':=[(b2,O (Use.cells y1) 111)]++(A1_)) U (qO 2 U ?_)))))))))
 let z1:Nat×Obj:=(b2,O (Use.cells y1) 111)
 refine eQ ([z1]) mixed kr jn (fun dH _=>?_)
 refine qB [0] U (tf 1 U U (fun _ _ hj=>fH ty3 U (hj.nth (i:=0) U) U) (tf 2 U U (fun _ _ hj=>eV ty3 ((aknown.mono (hle.t hl1)).mono hj.1) U) (qA [3,4] U ?_)))
 refine dt 18 U (fun c1=>?_) (fun c1=>?_)
 ·have c1p:=of_decide_eq_true c1
  refine qB [5] U (tf 6 U U (fun _ _ hj=>jK 3 ty3 ((abg.mono (hle.t hl1)).mono hj.1) U U) (qA [7,8] U ?_))
  refine dt 22 U (fun c2=>?_) (fun c2=>?_)
  ·refine qD 9 9 U (tf 18 U U (fun _ _ hj=>fH ty3 U (hj.nth (i:=0) U) U) (qB [19] U (tf 20 U U (fun _ _ hj=>jK 4 ty3 ((abg.mono (hle.t hl1)).mono hj.1) U U) (tf 21 U U (fun _ _ _=>Hu U U ob) (tf 22 U U (fun _ _ hj=>eV ty3 ((aat_.mono (hle.t hl1)).mono hj.1) U) (qB [23] U (tf 24 U U (fun _ _ hj=>jK 4 ty3 ((abg.mono (hle.t hl1)).mono hj.1) U U) (tf 25 U U (fun _ _ _=>Hu U U ob) (qA [26] U (tf 27 U U (fun _ _ _=>mz U (cb (show ((IntKind.wrap .i64 (y1.At.tdiv bg.Period))==(IntKind.wrap .i64 (at_.tdiv bg.Period)))=((decide (y1.Known≤known)&&((bg.Kind==(-1))||(bg.Kind==y1.Kind)))&&((IntKind.wrap .i64 (y1.At.tdiv bg.Period))==(IntKind.wrap .i64 (at_.tdiv bg.Period)))) from by first | (rw [c1];rw [c2];rfl) | (rw [c2];rfl) | simp [c1,c2]))) (tm 28 U ?_)))))))))))
   refine dt 42 U (fun c3=>?_) (fun c3=>?_)
   ·have ct1:=c3
    have hs4:=hs3.trans (congrArg (dn1++·) (bt ct1))
    refine qB [29,30] U (tf 31 U U (fun _ _ hj=>fH ty3 U (hj.nth (i:=0) U) U) ?_)
    have hx1:cm u known bg at_=dn1++(y1.Value::(cm.L1 known bg at_ (cm.K1) rz1)):=hs4
    refine tn 32 U (jW ([z1]) A1_ ap (hy dn1 y1.Value _ _ _ _ hx1 hl1 hC1_ U) U U (fun h2 A3 hle1 hC1=>?_) (fun h3 A4 hle2 hS1=>?_) (fun ch1 h4 A5 hle3 hP1 e=>gp (lG [] (A:=A5) wG (List.sublist_append_right _ _) hP1)))
    ·have hs5:cm u known bg at_=(dn1++[y1.Value])++((cm.L1 known bg at_ (cm.K1) rz1)):=hx1.trans ap
     exact ⟨⟨hle1,fun _ hp=>List.Sublist.subset js hp⟩,mD (K2:=[z1]) hle1 (fun _ hp=>hp) (qA [33,34] U (aW kr (qT 4 U (aw (v':=I (((i1+1):Nat):Int)) U (bw ob) (qO 2 U (bB (L':=A3) js (ag1 ((dn1++[y1.Value]),A3,h2) hs5 ⟨hC1,(hl1.t hle1)⟩)))))))⟩
    exact ⟨⟨hle2,fun _ hp=>List.Sublist.subset js hp⟩,mD (K2:=[z1]) hle2 (fun _ hp=>hp) (qA [33,34] U (aW kr (iq U (dY (lq [] (A:=A4) wG U js (.inr hS1))))))⟩
   have ct2:=c3
   have hs6:=hs3.trans (congrArg (dn1++·) (bf ct2))
   exact tk 29 U U (qR 30 5 U (aW kr (qT 4 U (aw (v':=I (((i1+1):Nat):Int)) U (bw ob) (qO 2 U (bB (L':=A1_) js (ag1 (dn1,A1_,hh1) hs6 ⟨hC1_,hl1⟩)))))))
  refine qB [9] U (tf 10 U U (fun _ _ hj=>jK 3 ty3 ((abg.mono (hle.t hl1)).mono hj.1) U U) (qB [11] U (tf 12 U U (fun _ _ hj=>fH ty3 U (hj.nth (i:=0) U) U) (qR 13 4 U ?_))))
  refine dt 30 U (fun c4=>?_) (fun c4=>?_)
  ·refine qB [17] U (tf 18 U U (fun _ _ hj=>fH ty3 U (hj.nth (i:=0) U) U) (qB [19] U (tf 20 U U (fun _ _ hj=>jK 4 ty3 ((abg.mono (hle.t hl1)).mono hj.1) U U) (tf 21 U U (fun _ _ _=>Hu U U ob) (tf 22 U U (fun _ _ hj=>eV ty3 ((aat_.mono (hle.t hl1)).mono hj.1) U) (qB [23] U (tf 24 U U (fun _ _ hj=>jK 4 ty3 ((abg.mono (hle.t hl1)).mono hj.1) U U) (tf 25 U U (fun _ _ _=>Hu U U ob) (qA [26] U (tf 27 U U (fun _ _ _=>mz U (cb (show ((IntKind.wrap .i64 (y1.At.tdiv bg.Period))==(IntKind.wrap .i64 (at_.tdiv bg.Period)))=((decide (y1.Known≤known)&&((bg.Kind==(-1))||(bg.Kind==y1.Kind)))&&((IntKind.wrap .i64 (y1.At.tdiv bg.Period))==(IntKind.wrap .i64 (at_.tdiv bg.Period)))) from by first | (rw [c1];rw [c2];rw [c4];rfl) | (rw [c4];rfl) | simp [c1,c2,c4]))) (tm 28 U ?_)))))))))))
   refine dt 42 U (fun c5=>?_) (fun c5=>?_)
   ·have ct3:=c5
    have hs7:=hs3.trans (congrArg (dn1++·) (bt ct3))
    refine qB [29,30] U (tf 31 U U (fun _ _ hj=>fH ty3 U (hj.nth (i:=0) U) U) ?_)
    have hx2:cm u known bg at_=dn1++(y1.Value::(cm.L1 known bg at_ (cm.K1) rz1)):=hs7
    refine tn 32 U (jW ([z1]) A1_ ap (hy dn1 y1.Value _ _ _ _ hx2 hl1 hC1_ U) U U (fun h5 A6 hle4 hC2=>?_) (fun h6 A7 hle5 hS2=>?_) (fun ch2 h7 A8 hle6 hP2 e=>gp (lG [] (A:=A8) wG (List.sublist_append_right _ _) hP2)))
    ·have hs8:cm u known bg at_=(dn1++[y1.Value])++((cm.L1 known bg at_ (cm.K1) rz1)):=hx2.trans ap
     exact ⟨⟨hle4,fun _ hp=>List.Sublist.subset js hp⟩,mD (K2:=[z1]) hle4 (fun _ hp=>hp) (qA [33,34] U (aW kr (qT 4 U (aw (v':=I (((i1+1):Nat):Int)) U (bw ob) (qO 2 U (bB (L':=A6) js (ag1 ((dn1++[y1.Value]),A6,h5) hs8 ⟨hC2,(hl1.t hle4)⟩)))))))⟩
    exact ⟨⟨hle5,fun _ hp=>List.Sublist.subset js hp⟩,mD (K2:=[z1]) hle5 (fun _ hp=>hp) (qA [33,34] U (aW kr (iq U (dY (lq [] (A:=A7) wG U js (.inr hS2))))))⟩
   have ct4:=c5
   have hs9:=hs3.trans (congrArg (dn1++·) (bf ct4))
   exact tk 29 U U (qR 30 5 U (aW kr (qT 4 U (aw (v':=I (((i1+1):Nat):Int)) U (bw ob) (qO 2 U (bB (L':=A1_) js (ag1 (dn1,A1_,hh1) hs9 ⟨hC1_,hl1⟩)))))))
  refine qR 17 10 U (tf 27 U U (fun _ _ _=>mz U (cb (show false=((decide (y1.Known≤known)&&((bg.Kind==(-1))||(bg.Kind==y1.Kind)))&&((IntKind.wrap .i64 (y1.At.tdiv bg.Period))==(IntKind.wrap .i64 (at_.tdiv bg.Period)))) from by first | (rw [c1];rw [c2];rw [c4];rfl) | (rw [c4];rfl) | simp [c1,c2,c4]))) (tm 28 U ?_))
  refine dt 42 U (fun c6=>?_) (fun c6=>?_)
  ·have ct5:=c6
   have hs10:=hs3.trans (congrArg (dn1++·) (bt ct5))
   refine qB [29,30] U (tf 31 U U (fun _ _ hj=>fH ty3 U (hj.nth (i:=0) U) U) ?_)
   have hx3:cm u known bg at_=dn1++(y1.Value::(cm.L1 known bg at_ (cm.K1) rz1)):=hs10
   refine tn 32 U (jW ([z1]) A1_ ap (hy dn1 y1.Value _ _ _ _ hx3 hl1 hC1_ U) U U (fun h8 A9 hle7 hC3=>?_) (fun h9 A10 hle8 hS3=>?_) (fun ch3 h10 A11 hle9 hP3 e=>gp (lG [] (A:=A11) wG (List.sublist_append_right _ _) hP3)))
   ·have hs11:cm u known bg at_=(dn1++[y1.Value])++((cm.L1 known bg at_ (cm.K1) rz1)):=hx3.trans ap
    exact ⟨⟨hle7,fun _ hp=>List.Sublist.subset js hp⟩,mD (K2:=[z1]) hle7 (fun _ hp=>hp) (qA [33,34] U (aW kr (qT 4 U (aw (v':=I (((i1+1):Nat):Int)) U (bw ob) (qO 2 U (bB (L':=A9) js (ag1 ((dn1++[y1.Value]),A9,h8) hs11 ⟨hC3,(hl1.t hle7)⟩)))))))⟩
   exact ⟨⟨hle8,fun _ hp=>List.Sublist.subset js hp⟩,mD (K2:=[z1]) hle8 (fun _ hp=>hp) (qA [33,34] U (aW kr (iq U (dY (lq [] (A:=A10) wG U js (.inr hS3))))))⟩
  have ct6:=c6
  have hs12:=hs3.trans (congrArg (dn1++·) (bf ct6))
  exact tk 29 U U (qR 30 5 U (aW kr (qT 4 U (aw (v':=I (((i1+1):Nat):Int)) U (bw ob) (qO 2 U (bB (L':=A1_) js (ag1 (dn1,A1_,hh1) hs12 ⟨hC1_,hl1⟩)))))))
 have c1p:=of_decide_eq_false c1
 refine qR 5 22 U (tf 27 U U (fun _ _ _=>mz U (cb (show false=((decide (y1.Known≤known)&&((bg.Kind==(-1))||(bg.Kind==y1.Kind)))&&((IntKind.wrap .i64 (y1.At.tdiv bg.Period))==(IntKind.wrap .i64 (at_.tdiv bg.Period)))) from by first | (rw [c1];rfl) | (rw [c1];rfl) | simp [c1]))) (tm 28 U ?_))
 refine dt 42 U (fun c7=>?_) (fun c7=>?_)
 ·have ct7:=c7
  have hs13:=hs3.trans (congrArg (dn1++·) (bt ct7))
  refine qB [29,30] U (tf 31 U U (fun _ _ hj=>fH ty3 U (hj.nth (i:=0) U) U) ?_)
  have hx4:cm u known bg at_=dn1++(y1.Value::(cm.L1 known bg at_ (cm.K1) rz1)):=hs13
  refine tn 32 U (jW ([z1]) A1_ ap (hy dn1 y1.Value _ _ _ _ hx4 hl1 hC1_ U) U U (fun h11 A12 hle10 hC4=>?_) (fun h12 A13 hle11 hS4=>?_) (fun ch4 h13 A14 hle12 hP4 e=>gp (lG [] (A:=A14) wG (List.sublist_append_right _ _) hP4)))
  ·have hs14:cm u known bg at_=(dn1++[y1.Value])++((cm.L1 known bg at_ (cm.K1) rz1)):=hx4.trans ap
   exact ⟨⟨hle10,fun _ hp=>List.Sublist.subset js hp⟩,mD (K2:=[z1]) hle10 (fun _ hp=>hp) (qA [33,34] U (aW kr (qT 4 U (aw (v':=I (((i1+1):Nat):Int)) U (bw ob) (qO 2 U (bB (L':=A12) js (ag1 ((dn1++[y1.Value]),A12,h11) hs14 ⟨hC4,(hl1.t hle10)⟩)))))))⟩
  exact ⟨⟨hle11,fun _ hp=>List.Sublist.subset js hp⟩,mD (K2:=[z1]) hle11 (fun _ hp=>hp) (qA [33,34] U (aW kr (iq U (dY (lq [] (A:=A13) wG U js (.inr hS4))))))⟩
 have ct8:=c7
 have hs15:=hs3.trans (congrArg (dn1++·) (bf ct8))
 exact tk 29 U U (qR 30 5 U (aW kr (qT 4 U (aw (v':=I (((i1+1):Nat):Int)) U (bw ob) (qO 2 U (bB (L':=A1_) js (ag1 (dn1,A1_,hh1) hs15 ⟨hC1_,hl1⟩)))))))
theorem zO (h:HF) (zt:Budget) (u:List Use) (zR:Option Addr) (zQ:Nat) (cv:Int) (known:Int) (hu:SlC Use.rp h zR zQ u) (hbp:zt.Period≠0):jN prog 102 [.agg (Budget.cells zt).toArray,.slice zR u.length zQ,I cv,I known] h (fun v h'=>∃ (rv0:Value),v=rv0∧Itr prog rv0 uS (mB zt u cv known) h'):=by
 refine sT func102 U ntmps102 U fun X hM hX hF=>?_
 have hs0:mB zt u cv known=mB zt u cv known:=rfl
 refine sr (cA (fun b1=>cA (fun b2=>cA (fun b3=>cA (fun b4=>qO 4 U (aT 2 U hM (fun h1 hle1 hb1=>aT 0 U hM (fun h2 hle2 hb2=>aT 1 U hM (fun h3 hle3 hb3=>aT 0 U hM (fun h4 hle4 hb4=>aF (et U U (an ?_))))))))))))
 have hs1:mB zt u cv known=(cm u known zt cv):=hs0
 exact nretH [.func (.func 195) #[] #[Q b2,Q b4,Q b1,Q b3]] ⟨(.func (.func 195) #[] #[Q b2,Q b4,Q b1,Q b3]),congrArg (fun r:List Int=>((.func (.func 195) #[] #[Q b2,Q b4,Q b1,Q b3]):Value)) hs1.symm,(by rw [hs1];exact (xK h4 u zR zQ ⟨b2,0,none⟩ known ⟨b4,0,none⟩ zt ⟨b1,0,none⟩ cv ⟨b3,0,none⟩ (hu.mono Use.ao (((hle1.t hle2).t hle3).t hle4)) ((ct hb1).mono ((hle2.t hle3).t hle4)) ((ct hb2).mono (hle3.t hle4)) ((ct hb3).mono hle4) (ct hb4) ob))⟩
end Go.Sg
