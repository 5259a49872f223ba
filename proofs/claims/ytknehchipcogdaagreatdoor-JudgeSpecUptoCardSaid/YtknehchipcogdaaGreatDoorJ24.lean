import Derived.Test.YtknehchipcogdaaGreatDoorJ22
/- A part of the proof of JudgeSpec. -/
set_option linter.unusedVariables false
set_option linter.unusedSimpArgs false
set_option maxRecDepth 100000
open List renaming length_cons→xA,toArray→vB
open Go.Sg.Rp renaming int→jB,bool→vV
open Go.Sg.HF renaming le→zM
open Nat renaming le_refl→zE

namespace Go.Sg
variable {κ:Type} {ats:Array TypeId}
section
open Go.Proofs Go.Proofs.Tryz
set_option maxHeartbeats 4000000
theorem Bz(h ir v0 v0_q v1 v1_q)(av0:At h v0_q [I v0])(av1:At h v1_q [I v1]):Ret prog 172 [I ir,.pointer (some v0_q),.pointer (some v1_q)] h (.bool (lV ir v0 v1)):=by
 refine sVv func172 ntmps172 ?_
 generalize hz:(lV ir v0 v1)=z
 exact W
instance kC172:Ct 172:=⟨_,call172,@Bz⟩
theorem pm(h s zo zm)(f:(aj->Bool))(f_v)(hs:SlC aj.rp h zo zm s)(hf:∀(h':HF)(fX:aj)(Le:m6),zM h h'->fX∈s->aj.ok h' fX Le->wg prog f_v [.agg (aj.cells fX Le).toArray] h' [] (.bool (f fX))):Ret prog 102 [.slice zo s.length zm,f_v] h (I (ah s f)):=by
 refine sVv func102 ntmps102 ?_
 generalize hz:(ah s f)=z
 have HA:=h0 [0,1,7] 8 (λs1 i=>(ah.L1 f (ah.K1)) s1 i)
 exact W
instance kC102:Ct 102:=⟨_,call102,@pm⟩
theorem Fe(s:List aj)(f:aj->Bool):ah s f<(s.length:Int):=by
 have key:∀(l:List aj)(i:Nat),ah.L1 f ah.K1 l i<((i+l.length:Nat):Int):=by
  intro l
  induction l with
  |nil=>intro i;simp only[ah.L1,ah.K1];omega
  |cons y l ih=>
   intro i
   simp only[ah.L1,Bool.cond_eq_ite,xA]
   split
   .omega
   have:=ih (i+1);omega
 have:=key s 0
 simpa[ah]using this
theorem Dz(h x Wq Wd)(hx:SlC jB h Wq Wd x)(hne:0<x.length):Ret prog 171 [.slice Wq x.length Wd] h (I (iu x)):=by
 refine sT func171 U ntmps171 U λX hM hX hF=>?_
 have hs0:=@rfl _ (iu x)
 refine qK 11 [] U (lL U (λc1=>?_) (λc1=>?_))
 .exact absurd c1 (by simp only[decide_eq_true_eq,Bool.not_eq_true,decide_eq_false_iff_not];omega)
 have c1p:=of_decide_eq_false c1
 refine qT 4 U ?_
 have ho1:0<=(0:Int)/\(0:Int)<((x).length:Int):=ob
 refine aS (tW (enc:=λy=>[I y]) ei fm ty3 hx.1 ho1 (eu ho1) U U U (λq1 A1=>iw ty3 A1 U (qO 7 U ?_)))
 refine km (ι:=Nat×Int) (λi=>[(3,I i.2)]) (λi=>h) (λi=>[]) (λi=>i.1<=x.length/\iu x=((iu.K1) i.2)) ?_ (λhx1=>?_)
 .rintro⟨i1,m8⟩ ⟨pq,hs1⟩ e
  exact sr (qO 3 U (nretP [I m8] (ci hs1)))
 refine mL (ι:=Nat×Int×List Int) (λi=>[(0,.slice Wq x.length Wd),(3,I i.2.1),(4,I (i.1:Int))]) (λi=>h) (λi=>[]) (λi=>x.drop i.1=i.2.2/\i.1<=x.length/\iu x=((iu.L1 (iu.K1)) i.2.2 i.2.1)) (λi=>i.2.2.length) (1,(nthI x 0),(x.drop 1)) rd sw ⟨U,ob,hs0⟩ ?_
 rintro⟨i1,m8,s1⟩ ⟨hd1,pq,hs3⟩ ag1 e
 rcases s1 with _|⟨y1,rz1⟩
 .have rZ:=rm hd1
  exact qK 6 [] U (fO rZ U (qO 3 U (hx1 (i1,m8) _ ⟨pq,hs3⟩ rd)))
 have ns:=Bs hd1
 have iI:=sR hd1
 have po:=kl hd1
 have xe:=hx.1.1
 exact qK 6 [] U (tO ns U (qO 9 U (aS (iF (λy=>[I y]) fm ty3 hx.1 iI U U U (λq3 A3=>iw ty3 A3 U (aS (fU (Wg U U) (qO 5 U (oi i1 U (an (ag1 ((i1+1),(min m8 y1),rz1) _ (Nat.lt_succ_self _) ⟨nl hd1,kl hd1,hs3⟩ rd)))))))))))
theorem yy(h v0 Ar Aq v0_q)(hv0:SlC jB h Ar Aq v0)(av0:At h v0_q [.slice Ar v0.length Aq]):Itr prog (.func (.func 335) #[] (vB [.pointer (some v0_q)])) BS (eR v0) h:=by
 refine vt call335 ?_
 generalize hz:eR v0=z;have hs:=hz.symm
 intro yf ya yb C Sp Pn h1 A eT m1 m2 m3 hC hy
 refine sTY func335 U ntmps335 U λX hXM hX hF=>?_
 have hv:z=[]++z:=rfl
 have HA:=h0 [0,5,6] 7 (λs1 i=>(eR.L1 (eR.K1)) s1)
 exact W
instance kI335:CtI 335:=⟨_,@yy⟩
theorem xO(rec:ba->ai->Bool)(h q xm)(x:ai)(gN)(hrec:∀(h:HF)(qq:ba)(EX:mI)(qx:ai)(mi:dO)(hqq:ba.ok h qq EX)(hqx:ai.ok h qx mi)(hok:OkX (qq.bh.length:Int) qx)(hso:qq.gv.Pairwise (·<=·))(hsw:qq.gv.length<=2000000)(_:qx.dep<x.dep),Ret prog 273 [.agg (ba.cells qq EX).toArray,.agg (ai.cells qx mi).toArray] h (.bool (rec qq qx)))(hq:ba.ok h q xm)(hx:ai.ok h x gN)(hok:OkX (q.bh.length:Int) x)(hso:q.gv.Pairwise (·<=·))(hsw:q.gv.length<=2000000):Ret prog 347 [.agg (ba.cells q xm).toArray,.agg (ai.cells x gN).toArray] h (.bool (eS.F rec q x)):=by
 refine sVv func347 ntmps347 ?_
 generalize hz:(eS.F rec q x)=z
 have w0:=λ{y}(a:y∈_)=>hok.sub y a
 have HA:=h1 [2,3,9,10] 11 (λw=>[(5,I w)]) (λs1 i w=>(eS.L1 rec q (eS.K1 x)) s1 w)
 exact W
theorem Gx(rec:ai->Int->Int)(h)(x:ai)(gN ew)(hrec:∀(h:HF)(qx:ai)(mi:dO)(qlimit:Int)(hqx:ai.ok h qx mi)(_:qx.dep<x.dep),Ret prog 93 [.agg (ai.cells qx mi).toArray,I qlimit] h (I (rec qx qlimit)))(hx:ai.ok h x gN):Ret prog 93 [.agg (ai.cells x gN).toArray,I ew] h (I (iD.F rec x ew)):=by
 refine sVv func93 ntmps93 ?_
 generalize hz:(iD.F rec x ew)=z
 have HA:=h1 [1,2] 6 (λw=>[(5,I w)]) (λs1 i w=>(iD.L1 rec ew (iD.K1)) s1 w)
 exact W
theorem wq:∀(m:Nat)(h:HF)(x:ai)(gN:dO)(ew:Int)(_:x.dep<=m)(hx:ai.ok h x gN),Ret prog 93 [.agg (ai.cells x gN).toArray,I ew] h (I (iD.go m x ew))
 |0,h,x,gN,ew,hd,hx=>absurd hd (Nat.not_le.2 (ai.ny _))
 |m+1,h,x,gN,ew,hd,hx=>Gx (iD.go m) h x gN ew (λqh_ qx mi qlimit qhx qd=>wq m qh_ qx mi qlimit ob qhx) hx
theorem Io(h x gN ew)(hx:ai.ok h x gN):Ret prog 93 [.agg (ai.cells x gN).toArray,I ew] h (I (iD x ew)):=wq _ h x gN ew (zE _) hx
instance kC93:Ct 93:=⟨_,call93,@Io⟩
theorem GN(rec:ai->Int->Int)(h)(x:ai)(gN ew)(hrec:∀(h:HF)(qx:ai)(mi:dO)(qlimit:Int)(hqx:ai.ok h qx mi)(_:qx.dep<x.dep),Ret prog 369 [.agg (ai.cells qx mi).toArray,I qlimit] h (I (rec qx qlimit)))(hx:ai.ok h x gN):Ret prog 369 [.agg (ai.cells x gN).toArray,I ew] h (I (dW.F rec x ew)):=by
 refine sVv func369 ntmps369 ?_
 generalize hz:(dW.F rec x ew)=z
 have HA:=h1 [1,2] 6 (λw=>[(5,I w)]) (λs1 i w=>(dW.L1 rec ew (dW.K1)) s1 w)
 exact W
theorem wy:∀(m:Nat)(h:HF)(x:ai)(gN:dO)(ew:Int)(_:x.dep<=m)(hx:ai.ok h x gN),Ret prog 369 [.agg (ai.cells x gN).toArray,I ew] h (I (dW.go m x ew))
 |0,h,x,gN,ew,hd,hx=>absurd hd (Nat.not_le.2 (ai.ny _))
 |m+1,h,x,gN,ew,hd,hx=>GN (dW.go m) h x gN ew (λqh_ qx mi qlimit qhx qd=>wy m qh_ qx mi qlimit ob qhx) hx
theorem IG(h x gN ew)(hx:ai.ok h x gN):Ret prog 369 [.agg (ai.cells x gN).toArray,I ew] h (I (dW x ew)):=wy _ h x gN ew (zE _) hx
instance kC369:Ct 369:=⟨_,call369,@IG⟩
theorem xw(h s zo zm)(f:(Int->Bool))(f_v)(hs:SlC jB h zo zm s)(hf:∀(h':HF)(fX:Int),zM h h'->wg prog f_v [I fX] h' [] (.bool (f fX))):Ret prog 160 [.slice zo s.length zm,f_v] h (I (eU s f)):=by
 refine sVv func160 ntmps160 ?_
 generalize hz:(eU s f)=z
 have HA:=h0 [0,1,7] 8 (λs1 i=>(eU.L1 f (eU.K1)) s1 i)
 exact W
instance kC160:Ct 160:=⟨_,call160,@xw⟩
theorem Em(h l eP eO ew)(hl:SlC jB h eP eO l):Ret prog 214 [.slice eP l.length eO,I ew] h (.bool (fC l ew)):=by
 refine sVv func214 ntmps214 ?_
 generalize hz:(fC l ew)=z
 have HA:=h1 [0,1,8,9] 10 (λw=>[(5,I w)]) (λs1 i w=>(fC.L1 ew (fC.K1 l)) s1 w)
 exact W
instance kC214:Ct 214:=⟨_,call214,@Em⟩
theorem tV(h s zo zm)(f:(ae->Bool))(f_v)(hs:SlC ae.rp h zo zm s)(hf:∀(h':HF)(fX:ae),zM h h'->wg prog f_v [.agg (ae.cells fX).toArray] h' [] (.bool (f fX))):Ret prog 377 [.slice zo s.length zm,f_v] h (I (dp s f)):=by
 refine sVv func377 ntmps377 ?_
 generalize hz:(dp s f)=z
 have HA:=h0 [0,1,7] 8 (λs1 i=>(dp.L1 f (dp.K1)) s1 i)
 exact W
theorem uI(h)(q:bL)(x:aE)  : Ret prog 383 [.agg (bL.cells q).toArray,.agg (aE.cells x).toArray] h (.bool (i7 q x)):=by
 refine sVv func383 ntmps383 ?_
 generalize hz:(i7 q x)=z
 exact W
instance kC383:Ct 383:=⟨_,call383,@uI⟩
theorem uu(h s zo zm)(f:(aC->Bool))(f_v)(hs:SlC aC.rp h zo zm s)(hf:∀(h':HF)(fX:aC)(Le:px),zM h h'->aC.ok h' fX Le->wg prog f_v [.agg (aC.cells fX Le).toArray] h' [] (.bool (f fX))):Ret prog 166 [.slice zo s.length zm,f_v] h (I (bM s f)):=by
 refine sVv func166 ntmps166 ?_
 generalize hz:(bM s f)=z
 have HA:=h0 [0,1,7] 8 (λs1 i=>(bM.L1 f (bM.K1)) s1 i)
 exact W
instance kC166:Ct 166:=⟨_,call166,@uu⟩
theorem He(s:List aC)(f:aC->Bool):bM s f<(s.length:Int):=by
 have key:∀(l:List aC)(i:Nat),bM.L1 f bM.K1 l i<((i+l.length:Nat):Int):=by
  intro l
  induction l with
  |nil=>intro i;simp only[bM.L1,bM.K1];omega
  |cons y l ih=>
   intro i
   simp only[bM.L1,Bool.cond_eq_ite,xA]
   split
   .omega
   have:=ih (i+1);omega
 have:=key s 0
 simpa[bM]using this
theorem wV(h s zo zm)(f:(Bool->Bool))(f_v)(hs:SlC vV h zo zm s)(hf:∀(h':HF)(fX:Bool),zM h h'->wg prog f_v [.bool fX] h' [] (.bool (f fX))):Ret prog 354 [.slice zo s.length zm,f_v] h (I (fo s f)):=by
 refine sVv func354 ntmps354 ?_
 generalize hz:(fo s f)=z
 have HA:=h0 [0,1,7] 8 (λs1 i=>(fo.L1 f (fo.K1)) s1 i)
 exact W
instance kC354:Ct 354:=⟨_,call354,@wV⟩
theorem GO(rec:ai->Int)(h)(x:ai)(gN)(hrec:∀(h:HF)(qx:ai)(mi:dO)(hqx:ai.ok h qx mi)(_:qx.dep<x.dep),Ret prog 370 [.agg (ai.cells qx mi).toArray] h (I (rec qx)))(hx:ai.ok h x gN):Ret prog 370 [.agg (ai.cells x gN).toArray] h (I (bI.F rec x)):=by
 refine sVv func370 ntmps370 ?_
 generalize hz:(bI.F rec x)=z
 have HA:=h1 [1] 4 (λw=>[(3,I w)]) (λs1 i w=>(bI.L1 rec (bI.K1)) s1 w)
 exact W
theorem wz:∀(m:Nat)(h:HF)(x:ai)(gN:dO)(_:x.dep<=m)(hx:ai.ok h x gN),Ret prog 370 [.agg (ai.cells x gN).toArray] h (I (bI.go m x))
 |0,h,x,gN,hd,hx=>absurd hd (Nat.not_le.2 (ai.ny _))
 |m+1,h,x,gN,hd,hx=>GO (bI.go m) h x gN (λqh_ qx mi qhx qd=>wz m qh_ qx mi ob qhx) hx
theorem II(h x gN)(hx:ai.ok h x gN):Ret prog 370 [.agg (ai.cells x gN).toArray] h (I (bI x)):=wz _ h x gN (zE _) hx
instance kC370:Ct 370:=⟨_,call370,@II⟩
theorem IB(h permits ku kt so)(hpermits:SlC vV h ku kt permits):Ret prog 300 [.slice ku permits.length kt,.bool so] h (I (gY permits so)):=by
 refine sVv func300 ntmps300 ?_
 generalize hz:(gY permits so)=z
 have HA:=h0 [0,1] 5 (λs1 i=>(gY.L1 so (gY.K1)) s1 i)
 exact W
instance kC300:Ct 300:=⟨_,call300,@IB⟩
end
end Go.Sg
