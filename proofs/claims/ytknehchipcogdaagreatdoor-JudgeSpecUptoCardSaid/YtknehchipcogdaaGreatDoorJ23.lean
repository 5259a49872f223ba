import Derived.Test.YtknehchipcogdaaGreatDoorJ22
/- A part of the proof of JudgeSpec. -/
set_option linter.unusedVariables false
set_option linter.unusedSimpArgs false
set_option maxRecDepth 100000
open List renaming length_cons→xA,length_nil→xB,toArray→vB,mem_append→qE
open Go.Sg.Rp renaming int→jB,bG→vJ,str→X5,kv→YS
open Go.Value renaming int→jC
open Go.Sg.HF renaming le_trans→xD,le_refl→vF,le→zM
open Nat renaming le_refl→zE
open Go.Sg.OSeat renaming cells→jE,enc→jS
open Go.Sg.SlC renaming nil→vE

namespace Go.Sg
variable {κ:Type} {ats:Array TypeId}
section
open Go.Proofs Go.Proofs.Tryz
set_option maxHeartbeats 4000000
theorem lv(h W0)  : Fw prog 29 [I W0] h (exW errV (λr:Unit=>(.tuple #[]:Value)) (my W0)):=by
 refine sVv func29 ntmps29 ?_
 generalize hz:(my W0)=z
 exact W
instance kC29:Ct 29:=⟨_,Kp,@lv⟩
theorem RR{p:Prop}(h:p:=by
  exact jI U (cB (oi i1 U (qO 2 U (ek (L':=[(b1,Bp)]++(A)) js (ag2 (Ak,cU,Bp) hs7 ⟨vU,lc⟩)))))):p:=h
theorem zZ(h l eP eO l_q ad known_q fH from__q)(hl:SlC aC.rp h eP eO l)(al:At h l_q [.slice eP l.length eO])(aknown:At h known_q [I ad])(afrom_:At h from__q [I fH])(hsz:l.length<=2000000):Itr prog (.func (.func 262) #[] (vB [.pointer (some l_q),.pointer (some known_q),.pointer (some from__q)])) tX (bO l ad fH) h:=by
 refine vt call262 ?_
 intro yf ya yb C Sp Pn h1 A eT m1 m2 m3 hC hy
 refine oA Tv U ntmps262 U λX hXM hX=>?_
 have hs0:bO l ad fH=[]++bO l ad fH:=rfl
 refine sr (aS (T4 hXM (λb1 b1M=>qO 9 U (iw ty26 (al.mono eT) U (qL 3 [] U ?_)))))
 refine lp2 l (λi w=>[(0,.func yf ya yb),(2,.pointer (some known_q)),(3,.pointer (some from__q)),(5,.map (some b1)),(6,I w.1),(13,.slice eP l.length eO),(14,I (l.length:Int)),(15,I (i:Int))]) (λ_=>h1) (λw=>[(b1,w.2.2)]++(A)) (λi w=>lB (jC .i64) (mT aC.rp) h1 w.2.2 w.2.1/\w.2.1.length<=0+i) (λs1 i w=>[]++(bO.L1 ad fH (bO.K1)) s1 w.1 w.2.1) ((-1),[],.map #[] 0) ((hl.mono aC.aB eT).1.1) hs0 ⟨(lB.nil (enc:=(jC .i64)) (V:=(mT aC.rp)) (h:=h1)),lc⟩ ?_ ?_
 .rintro i1 ⟨Ak,cU,Bp⟩ pq hs1 ⟨vU,JH⟩ e
  try dsimp only at vU JH
  refine qT 3 U (HW 0 U b1M (λh8 hle7 hb3=>?_))
  have mc2:uN (jC .i64) (mT aC.rp) h8 b1 cU:=⟨_,hb3,vU.mono (mT.mono aC.aB) hle7⟩
  refine aS (eb call264 (AV h8 cU b1 mc2) U (λv4 h9 hle8 hp3=>aS (eb call263 (Ce h9 v4 (cU.map Prod.fst) hp3 (by rw[List.length_map];omega)) U (λv5 h10 hle9 hp4=>?_))))
  obtain⟨rb2,rc2,rfl,sl2⟩:=hp4
  refine qL 3 [] U ?_
  refine lp2 (sortI (cU.map Prod.fst)) (λi w=>[(0,.func yf ya yb),(5,.map (some b1)),(39,.slice rb2 ((sortI (cU.map Prod.fst)).length) rc2),(40,I ((sortI (cU.map Prod.fst)).length:Int)),(41,I (i:Int))]) (λw=>w.2.2) (λw=>w.2.1) (λi w=>C w.1 w.2.2 w.2.1/\zM h10 w.2.2) (λs2 i w=>w.1++(bO.L2 cU (bO.K2)) s2) ([],A,h10) sl2.1.1 hs1 ⟨(m1 _ _ _ _ ((hle7.t hle8).t hle9) hC),lf⟩ ?_ ?_
  .rintro i2 ⟨dn2,A2_,hh2⟩ Ff hs2 ⟨hC2_,hl2⟩ e
   try dsimp only at hC2_ hl2
   refine ke ?_
   have hs3:bO l ad fH=dn2:=hs2.trans (List.append_nil _)
   exact Fa [] (A:=A2_) Tv U (List.Sublist.refl _) (.inl (hs3▸hC2_))
  rintro i2 ⟨dn2,A2_,hh2⟩ y2 rz2 hd2 Cr zw L8 UC hs4 ⟨hC2_,hl2⟩ hx2 ag1 e
  try dsimp only at hC2_ hl2
  refine sr (tO Cr U (qO 8 U (aS (iF (λy=>[I y]) fm ty3 (sl2.mono vJ hl2).1 zw U U U (λq4 A10=>iw ty3 A10 U (qO 8 U ?_))))))
  obtain⟨o3,hb5,hm5⟩:=(mc2.mono (mT.mono aC.aB) ((hle8.t hle9).t hl2))
  refine aS (ru (k:=y2) Ty (im qZ) hb5 hm5 (gF zv63) (show(mT aC.rp) _ (.agg (vB [I 0,I 0,I 0,.string (⟨#[]⟩:ByteArray),zSN,zSN,zSN,I 0,I 0,I 0,.string (⟨#[]⟩:ByteArray),zSN,I 0])) (aC.mk 0 0 0 (aw.mk (⟨#[]⟩:ByteArray) [] [] [] (ai.mk 0 0 0 (⟨#[]⟩:ByteArray) []) 0))from⟨_,U,(px.mk (iq.mk none 0 none 0 none 0 (dO.mk none 0))),U,⟨⟨vE,vE,vE,(ai.ok.of vE)⟩⟩⟩) U U (λv7 hv3=>?_))
  obtain⟨_,rfl,rr4,rfl,ok4⟩:=hv3
  have hx3:bO l ad fH=dn2++((y2,(mgetD cU y2 (aC.mk 0 0 0 (aw.mk (⟨#[]⟩:ByteArray) [] [] [] (ai.mk 0 0 0 (⟨#[]⟩:ByteArray) []) 0))))::(bO.L2 cU (bO.K2) rz2)):=hs4
  refine aS (sZ ([]) A2_ ap (hy dn2 (y2,(mgetD cU y2 (aC.mk 0 0 0 (aw.mk (⟨#[]⟩:ByteArray) [] [] [] (ai.mk 0 0 0 (⟨#[]⟩:ByteArray) []) 0)))) _ _ _ _ hx3 (((hle7.t hle8).t hle9).t hl2) hC2_ ⟨rr4,U,ok4⟩) U U (λh14 A11 hle13 hC3=>?_) (λh15 A12 hle14 hS3=>?_) (λch3 h16 A13 hle15 hP3 e=>nK (Bd [] (A:=A13) Tv (List.sublist_append_right _ _) hP3)))
  .have hs5:bO l ad fH=(dn2++[(y2,(mgetD cU y2 (aC.mk 0 0 0 (aw.mk (⟨#[]⟩:ByteArray) [] [] [] (ai.mk 0 0 0 (⟨#[]⟩:ByteArray) []) 0))))])++((bO.L2 cU (bO.K2) rz2)):=hx3.trans ap
   exact sF U (qO 5 U (oi i2 U (qO 2 U (ag1 ((dn2++[(y2,(mgetD cU y2 (aC.mk 0 0 0 (aw.mk (⟨#[]⟩:ByteArray) [] [] [] (ai.mk 0 0 0 (⟨#[]⟩:ByteArray) []) 0))))]),A11,h14) hs5 ⟨hC3,(hl2.t hle13)⟩))))
  exact sF U (qO 2 U (ke (Bc [] (A:=A12) Tv U (List.Sublist.refl _) (.inr hS3))))
 rintro i1 ⟨Ak,cU,Bp⟩ y1 rz1 hd1 ns iI po xe hs6 ⟨vU,JH⟩ hx1 ag2 e
 try dsimp only at vU JH
 refine sr (tO ns U (qO 8 U (aS (iR FA ty63 (hl.mono aC.aB eT).1 iI U U U (λ_ _ _ e=>e) (λq5 r2 A14 ok5=>lh ty63 A14 U U (cS zc63 (λb3=>cJ 0 ty63 U U U U U U (mf (L':=[(b3,O (aC.cells y1 r2) 63),(b1,Bp)]++(A)) U (qL 6 [0] U (iw ty3 (aknown.mono eT) U (qO 2 U (lL U (λc5=>?_) (λc5=>?_)))))))))))))
 .have c5p:=of_decide_eq_true c5
  have hs7:=hs6.trans (congrArg ([]++·) (bt c5))
  exact RR
 have c5p:=of_decide_eq_false c5
 have hs8:=hs6.trans (congrArg ([]++·) (bf c5))
 refine qK 11 [0] U (iw ty3 (afrom_.mono eT) U (qO 2 U (lL U (λc6=>?_) (λc6=>?_))))
 .have c6p:=of_decide_eq_true c6
  have hs9:=hs8.trans (congrArg ([]++·) (bt c6))
  refine qT 7 U (lL U (λc7=>?_) (λc7=>?_))
  .have c7p:=of_decide_eq_true c7
   have hs7:=hs9.trans (congrArg ([]++·) (bt c7))
   exact RR
  have c7p:=of_decide_eq_false c7
  have hs11:=hs9.trans (congrArg ([]++·) (bf c7))
  exact jf (hU ([(b3,O (aC.cells y1 r2) 63),(b1,Bp)]) mixed kr jn (λkI _=>tm 0 U (tf 1 U U (rh ty3 (afrom_.mono eT) U) (qA [2,3] U (dJ kr (qT 3 U (ga 0 ty63 U U U (aS (pS 1 (k:=fH) (x:=y1) Ty (im qZ) U vU U U ⟨_,U,r2,U,ok5⟩ (λmo3 hm6=>qO 3 U (oi i1 U (qO 2 U (ek (L':=[(b1,mo3)]++(A)) js (ag2 (y1.At,(mput cU fH y1),mo3) hs11 ⟨hm6,(by have:=rV cU fH y1;first|omega|(simp only[xB,xA]at *;omega))⟩))))))))))))))
 have c6p:=of_decide_eq_false c6
 have hs12:=hs8.trans (congrArg ([]++·) (bf c6))
 exact jf (qT 3 U (ga 0 ty63 U U U (aS (pS 1 (k:=y1.At) (x:=y1) Ty (im qZ) U vU U U ⟨_,U,r2,U,ok5⟩ (λmo4 hm7=>qO 3 U (oi i1 U (qO 2 U (ek (L':=[(b1,mo4)]++(A)) js (ag2 (Ak,(mput cU y1.At y1),mo4) hs12 ⟨hm7,(by have:=rV cU y1.At y1;first|omega|(simp only[xB,xA]at *;omega))⟩)))))))))
instance kI262:CtI 262:=⟨_,@zZ⟩
theorem AH(rec:ai->Bool->Bool)(h)(x:ai)(gN upto)(hrec:∀(h:HF)(qx:ai)(mi:dO)(qupto:Bool)(hqx:ai.ok h qx mi)(_:qx.dep<x.dep),Ret prog 316 [.agg (ai.cells qx mi).toArray,.bool qupto] h (.bool (rec qx qupto)))(hx:ai.ok h x gN):Ret prog 316 [.agg (ai.cells x gN).toArray,.bool upto] h (.bool (aO.F rec x upto)):=by
 refine sVv func316 ntmps316 ?_
 generalize hz:(aO.F rec x upto)=z
 have HA:=h0 [1,2] 5 (λs1 i=>(aO.L1 rec upto (aO.K1 x upto)) s1)
 exact W
theorem rS:∀(m:Nat)(h:HF)(x:ai)(gN:dO)(upto:Bool)(_:x.dep<=m)(hx:ai.ok h x gN),Ret prog 316 [.agg (ai.cells x gN).toArray,.bool upto] h (.bool (aO.go m x upto))
 |0,h,x,gN,upto,hd,hx=>absurd hd (Nat.not_le.2 (ai.ny _))
 |m+1,h,x,gN,upto,hd,hx=>AH (aO.go m) h x gN upto (λqh_ qx mi qupto qhx qd=>rS m qh_ qx mi qupto ob qhx) hx
theorem Cg(h x gN upto)(hx:ai.ok h x gN):Ret prog 316 [.agg (ai.cells x gN).toArray,.bool upto] h (.bool (aO x upto)):=rS _ h x gN upto (zE _) hx
instance kC316:Ct 316:=⟨_,call316,@Cg⟩
theorem ye(h v0 Ar Aq v0_q)(v1:List (dX×av))(Tg v1_q)(hv0:SlC av.rp h Ar Aq v0)(av0:At h v0_q [.slice Ar v0.length Aq])(hv1:uN dX.enc (mT av.rp) h Tg v1)(av1:At h v1_q [.map (some Tg)]):Itr prog (.func (.func 373) #[] (vB [.pointer (some v0_q),.pointer (some v1_q)])) yR (em v0 v1) h:=by
 refine vt call373 ?_
 generalize hz:em v0 v1=z;have hs:=hz.symm
 intro yf ya yb C Sp Pn h1 A eT m1 m2 m3 hC hy
 refine sTY func373 U ntmps373 U λX hXM hX hF=>?_
 have hv:z=[]++z:=rfl
 have HA:=h0 [0,2,6,7] 8 (λs1 i=>(em.L1 v1 (em.K1)) s1)
 exact W
instance kI373:CtI 373:=⟨_,@ye⟩
theorem ER(h)(bh:List (List aV))(gr gp aF)(pt:SlC (Rp.sl aV.rp) h gr gp bh):Ret prog 294 [.slice gr bh.length gp,I aF] h (.bool (eh bh aF)):=by
 refine sVv func294 ntmps294 ?_
 generalize hz:(eh bh aF)=z
 have HA:=h0 [0] 5 (λs1 i=>(eh.L1 (eh.K1)) s1)
 have HB:=λ{y1}{rz1}=>h0 [0,5,6] 7 (λs3 i=>(eh.L3 y1 ((eh.L1 (eh.K1) rz1))) s3 i)
 exact W
instance kC294:Ct 294:=⟨_,call294,@ER⟩
theorem M4(h l eP eO nA)(hl:SlC jB h eP eO l)(hsz0:l.length<=2000000):j0 prog 293 [.slice eP l.length eO,I nA] h (λv h'=>∃(rb0:Option Addr)(rc0:Nat),v=.slice rb0 (gG l nA).length rc0/\SlC jB h' rb0 rc0 (gG l nA)):=by
 refine sVv func293 ntmps293 ?_
 generalize hz:(gG l nA)=z
 have HA:=h0 [0,1] 5 (λs1 i=>(gG.L1 nA (gG.K1 l nA)) s1 i)
 exact W
instance kC293:Ct 293:=⟨_,call293,@M4⟩
theorem MY(h l eP eO nA)(hl:SlC jB h eP eO l)(hsz0:l.length<=2000000):j0 prog 122 [.slice eP l.length eO,I nA] h (λv h'=>∃(rb0:Option Addr)(rc0:Nat),v=.slice rb0 (fu l nA).length rc0/\SlC jB h' rb0 rc0 (fu l nA)):=by
 refine sVv func122 ntmps122 ?_
 generalize hz:(fu l nA)=z
 have HA:=h0 [0,1] 5 (λs1 i=>(fu.L1 nA (fu.K1 l nA)) s1 i)
 exact W
instance kC122:Ct 122:=⟨_,call122,@MY⟩
theorem GW(h)(x:aE)(aI kind value)  : Ret prog 396 [.agg (aE.cells x).toArray,I aI,I kind,I value] h (.bool (oY x aI kind value)):=by
 refine sVv func396 ntmps396 ?_
 generalize hz:(oY x aI kind value)=z
 exact W
instance kC396:Ct 396:=⟨_,call396,@GW⟩
theorem w4(h v0 Ar Aq v0_q)(hv0:SlC jB h Ar Aq v0)(av0:At h v0_q [.slice Ar v0.length Aq]):Itr prog (.func (.func 261) #[] (vB [.pointer (some v0_q)])) Ba (lm v0) h:=by
 refine vt call261 ?_
 intro yf ya yb C Sp Pn h1 A eT m1 m2 m3 hC hy
 refine oA Tu U ntmps261 U λX hXM hX=>?_
 have hbd:=hv0.1.1
 refine sr (iw ty31 (av0.mono eT) U (qL 1 [] U (ls (v':=I ((v0.length:Int)-1)) U (nv ob) (qO 3 U ?_))))
 refine mL (ι:=Nat×List (Int×Int)×LH×HF) (λi=>[(0,.func yf ya yb),(1,.pointer (some v0_q)),(3,I ((i.1:Int)-1))]) (λi=>i.2.2.2) (λi=>i.2.2.1)
  (λi=>lm v0=i.2.1++backL v0 i.1/\i.1<=v0.length/\C i.2.1 i.2.2.2 i.2.2.1/\zM h1 i.2.2.2) (λi=>i.1) (v0.length,[],A,h1) rd (λw hw=>hw) ⟨rfl,zE _,hC,vF _⟩ ?_
 rintro⟨m,dn,A1,hh⟩ ⟨hs,hm,hC1,hl1⟩ ag e
 dsimp only at hs hm hC1 hl1
 rcases m with _|m
 .exact eI (qT 3 U (fO (decide_eq_false ob) U (qO 3 U (ke (Fa [] (A:=A1) Tu U (List.Sublist.refl _) (.inl ((show lm v0=dn from hs.trans (List.append_nil _))▸hC1)))))))
 have e1:(((m+1:Nat):Int)-1)=(m:Int):=by omega
 rw[e1]
 have ho:0<=(m:Int)/\(m:Int)<(v0.length:Int):=by omega
 refine qT 4 U (tO (decide_eq_true ob) U (qO 9 U (iw ty31 (av0.mono (eT.t hl1)) U (dU (aS (tW (enc:=λy=>[I y]) ei fm ty3 (hv0.mono vJ (eT.t hl1)).1 ho (eu ho) U U U (λq2 A5=>iw ty3 A5 U ?_)))))))
 have hx:lm v0=dn++(((m:Int),nthI v0 (m:Int))::backL v0 m):=hs
 refine aS (sZ ([]) A1 U (hy dn ((m:Int),nthI v0 (m:Int)) _ _ _ _ hx hl1 hC1 U) U U (λh5 A6 hle4 hC2=>?_) (λh6 A7 hle5 hS2=>?_) (λch2 h7 A8 hle6 hP2 e=>nK (Bd [] (A:=A8) Tu (List.sublist_append_right _ _) hP2)))
 .have hs4:lm v0=(dn++[((m:Int),nthI v0 (m:Int))])++backL v0 m:=hx.trans ap
  exact sF U (qO 6 U (ls (v':=I ((m:Int)-1)) U (nv ob) (an (ag (m,dn++[((m:Int),nthI v0 (m:Int))],A6,h5) _ (Nat.lt_succ_self _) ⟨hs4,by show m<=v0.length;omega,hC2,xD hl1 hle4⟩ rd))))
 exact sF U (qO 2 U (ke (Bc [] (A:=A7) Tu U (List.Sublist.refl _) (.inr hS2))))
instance kI261:CtI 261:=⟨_,@w4⟩
theorem Jg(h)   : j0 prog 92 [] h (λv h'=>∃(rr0:iq),v=.agg (aw.cells (cL) rr0).toArray/\aw.ok h' (cL) rr0):=by
 refine el func92 U ntmps92 U λX hM hX=>?_
 have hs0:=@rfl _ (cL)
 refine sr (cS zc61 (λb1=>qO 3 U (aS (ia (cells:=[I 1,I 0,I 0,.string (⟨#[100,105,114,101,99,116,111,114]⟩:ByteArray),zSN]) (places:=[(0,1),(1,1),(2,1),(3,1),(4,1)]) underlying59 zc59 kr kr (cS zc59 (λb2=>cJ 0 ty59 U U U U U U (qO 3 U (aS (cM (cells:=[.string (⟨#[99,111,110,116,114,97,99,116]⟩:ByteArray)]) Ri ty9 zc9 U U kr (λb3=>aS (cM (cells:=[.string (⟨#[100,105,114,101,99,116,111,114]⟩:ByteArray)]) Ri ty9 zc9 U U kr (λb4=>ga 2 ty59 U U U (aS (ia (cells:=[.string (⟨#[99,111,110,116,114,97,99,116]⟩:ByteArray),I 0,I 3,I 1,I 0,I 0,.string (⟨#[100,105,114,101,99,116,111,114]⟩:ByteArray),zSN]) (places:=[(0,1),(1,1),(2,1),(3,5)]) underlying65 zc65 kr kr (aS (cM (cells:=[.string (⟨#[99,111,110,116,114,97,99,116]⟩:ByteArray),I 0,I 3,I 1,I 0,I 0,.string (⟨#[100,105,114,101,99,116,111,114]⟩:ByteArray),zSN]) MH ty65 zc65 U U kr (λb5=>ga 3 ty59 U U U (aS (ia (cells:=[.string (⟨#[98,111,97,114,100]⟩:ByteArray),.slice (zAD b3) 1 1,.slice (zAD b4) 1 1,.slice (zAD b5) 1 1,I 1,I 0,I 0,.string (⟨#[100,105,114,101,99,116,111,114]⟩:ByteArray),zSN,I 2]) (places:=[(0,1),(1,1),(2,1),(3,1),(4,5),(9,1)]) Rj zc61 kr kr (cJ 4 ty61 U U U U U U (ck (fK 2 U hM (λh1 hle1 hb1=>?_)))))))))))))))))))))))
 have sl1:SlC X5 h1 (zAD b3) 1 ([(⟨#[99,111,110,116,114,97,99,116]⟩:ByteArray)]):=bW.slB0 (T:=9) (fz:=(0,0)) ((show bW X5 h [.string (⟨#[99,111,110,116,114,97,99,116]⟩:ByteArray)] ([(⟨#[99,111,110,116,114,97,99,116]⟩:ByteArray)])from⟨[.string (⟨#[99,111,110,116,114,97,99,116]⟩:ByteArray)],[],rfl,rfl,rfl,rfl⟩).mono YS hle1) hb1
 refine fK 1 U hM (λh2 hle2 hb2=>?_)
 have sl2:SlC X5 h2 (zAD b4) 1 ([(⟨#[100,105,114,101,99,116,111,114]⟩:ByteArray)]):=bW.slB0 (T:=9) (fz:=(0,0)) ((show bW X5 h1 [.string (⟨#[100,105,114,101,99,116,111,114]⟩:ByteArray)] ([(⟨#[100,105,114,101,99,116,111,114]⟩:ByteArray)])from⟨[.string (⟨#[100,105,114,101,99,116,111,114]⟩:ByteArray)],[],rfl,rfl,rfl,rfl⟩).mono YS hle2) hb2
 refine fK 0 U hM (λh3 hle3 hb3=>?_)
 have sl3:SlC fI.rp h3 (zAD b5) 1 ([(fI.mk (⟨#[99,111,110,116,114,97,99,116]⟩:ByteArray) 0 3 (ai.mk 1 0 0 (⟨#[100,105,114,101,99,116,111,114]⟩:ByteArray) ([])))]):=bW.slB0 (T:=65) (fz:=(0,0)) ((show bW fI.rp h2 [.string (⟨#[99,111,110,116,114,97,99,116]⟩:ByteArray),I 0,I 3,I 1,I 0,I 0,.string (⟨#[100,105,114,101,99,116,111,114]⟩:ByteArray),zSN] ([(fI.mk (⟨#[99,111,110,116,114,97,99,116]⟩:ByteArray) 0 3 (ai.mk 1 0 0 (⟨#[100,105,114,101,99,116,111,114]⟩:ByteArray) ([])))])from⟨[.string (⟨#[99,111,110,116,114,97,99,116]⟩:ByteArray),I 0,I 3,I 1,I 0,I 0,.string (⟨#[100,105,114,101,99,116,111,114]⟩:ByteArray),zSN],[],rfl,rfl,⟨(yp.mk (dO.mk none 0)),rfl,((show fI.ok h (fI.mk (⟨#[99,111,110,116,114,97,99,116]⟩:ByteArray) 0 3 (ai.mk 1 0 0 (⟨#[100,105,114,101,99,116,111,114]⟩:ByteArray) ([]))) (yp.mk (dO.mk none 0))from⟨(show ai.ok h (ai.mk 1 0 0 (⟨#[100,105,114,101,99,116,111,114]⟩:ByteArray) ([])) (dO.mk none 0)from ai.ok.of vE)⟩).mono (hle1.t hle2))⟩,rfl⟩).mono fI.aB hle3) hb3
 have hs1:cL=(aw.mk (⟨#[98,111,97,114,100]⟩:ByteArray) ([(⟨#[99,111,110,116,114,97,99,116]⟩:ByteArray)]) ([(⟨#[100,105,114,101,99,116,111,114]⟩:ByteArray)]) ([(fI.mk (⟨#[99,111,110,116,114,97,99,116]⟩:ByteArray) 0 3 (ai.mk 1 0 0 (⟨#[100,105,114,101,99,116,111,114]⟩:ByteArray) ([])))]) (ai.mk 1 0 0 (⟨#[100,105,114,101,99,116,111,114]⟩:ByteArray) ([])) 2):=hs0
 exact mK [.agg (vB [.string (⟨#[98,111,97,114,100]⟩:ByteArray),.slice (zAD b3) 1 1,.slice (zAD b4) 1 1,.slice (zAD b5) 1 1,I 1,I 0,I 0,.string (⟨#[100,105,114,101,99,116,111,114]⟩:ByteArray),zSN,I 2])] func92 U ⟨⟨1,_,_,_,_,U,U,.inl ⟨ty61,U⟩⟩,trivial⟩ ⟨(iq.mk (zAD b3) 1 (zAD b4) 1 (zAD b5) 1 (dO.mk none 0)),congrArg (λr:aw=>(.agg (aw.cells r (iq.mk (zAD b3) 1 (zAD b4) 1 (zAD b5) 1 (dO.mk none 0))).toArray:Value)) hs1.symm,(by rw[hs1];exact(show aw.ok h3 (aw.mk (⟨#[98,111,97,114,100]⟩:ByteArray) ([(⟨#[99,111,110,116,114,97,99,116]⟩:ByteArray)]) ([(⟨#[100,105,114,101,99,116,111,114]⟩:ByteArray)]) ([(fI.mk (⟨#[99,111,110,116,114,97,99,116]⟩:ByteArray) 0 3 (ai.mk 1 0 0 (⟨#[100,105,114,101,99,116,111,114]⟩:ByteArray) ([])))]) (ai.mk 1 0 0 (⟨#[100,105,114,101,99,116,111,114]⟩:ByteArray) ([])) 2) (iq.mk (zAD b3) 1 (zAD b4) 1 (zAD b5) 1 (dO.mk none 0))from⟨(sl1.mono YS (hle2.t hle3)),(sl2.mono YS hle3),sl3,(show ai.ok h3 (ai.mk 1 0 0 (⟨#[100,105,114,101,99,116,111,114]⟩:ByteArray) ([])) (dO.mk none 0)from ai.ok.of vE)⟩))⟩
theorem Kw(h s)  : Ret prog 372 [.string s] h (.bool (vj s)):=by
 refine sVv func372 ntmps372 ?_
 generalize hz:(vj s)=z
 exact W
instance kC372:Ct 372:=⟨_,call372,@Kw⟩
theorem rC(h p jv)(hp:aw.ok h p jv)(hsz0:p.dt.length<=2000000):j0 prog 364 [.agg (aw.cells p jv).toArray] h (λv h'=>∃(rb0:Option Addr)(rc0:Nat),v=.slice rb0 (aH p).length rc0/\SlC ai.rp h' rb0 rc0 (aH p)):=by
 refine sVv func364 ntmps364 ?_
 generalize hz:(aH p)=z
 have HA:=hG [1,6,7] 8 2 ai.rp 59 (λs1 i w=>(aH.L1 (aH.K1 p)) s1 w)
 exact W
instance kC364:Ct 364:=⟨_,call364,@rC⟩
theorem Sc(p:aw):∀(l:List fI)(g:List ai),aH.L1 (aH.K1 p) l g=g++(l.map (·.ai)++[p.aP])
 |[],g=>by simp[aH.L1,aH.K1]
 |y::l,g=>by simp[aH.L1,Sc p l]
theorem UY(p:aw):aH p=p.dt.map (·.ai)++[p.aP]:=by
 unfold aH;rw[Sc];simp
theorem tL{p:aw}(h:smP p){y:ai}(hy:y∈aH p):y.dep<=1500000:=by
 rw[UY]at hy
 rcases qE.1 hy with hy|hy
 .obtain⟨r,hr,rfl⟩:=List.mem_map.1 hy;exact h.2.1 r hr
 rw[List.mem_singleton.1 hy];exact h.2.2.1
theorem ui(h x gN)(hx:ai.ok h x gN):Ret prog 443 [.agg (ai.cells x gN).toArray] h (.bool (mw x)):=by
 refine sVv func443 ntmps443 ?_
 generalize hz:(mw x)=z
 exact W
instance kC443:Ct 443:=⟨_,call443,@ui⟩
theorem xW(h l eP eO)(key:(aA->OSeat×Bool))(key_v)(later:(aA->aA->Bool))(later_v)(hl:SlC aA.rp h eP eO l)(hkey:∀(h':HF)(fX:aA),zM h h'->wg prog key_v [.agg (aA.cells fX).toArray] h' [] (.tuple #[.agg (jE ((key fX).1)).toArray,.bool ((key fX).2)]))(hlater:∀(h':HF)(fX:aA)(Ko:aA),zM h h'->wg prog later_v [.agg (aA.cells fX).toArray,.agg (aA.cells Ko).toArray] h' [] (.bool (later fX Ko))):j0 prog 343 [.slice eP l.length eO,key_v,later_v] h (λv h'=>∃(rk0:Nat),v=.map (some rk0)/\uN jS (mT aA.rp) h' rk0 (cY l key later)):=by
 refine sVv func343 ntmps343 ?_
 generalize hz:(cY l key later)=z
 have HA:=λ{b1}=>lM [1,2,7,15,16] 17 (.mM b1 jS (mT aA.rp) .mE) (λs1 i w=>(cY.L1 key later (cY.K1)) s1 w.1)
 exact W
instance kC343:Ct 343:=⟨_,call343,@xW⟩
theorem IH(h l eP eO eB ad)(hl:SlC aC.rp h eP eO l):Ret prog 196 [.slice eP l.length eO,I eB,I ad] h (I (cn l eB ad)):=by
 refine sVv func196 ntmps196 ?_
 generalize hz:(cn l eB ad)=z
 have HA:=lM [0,1,2] 8 (.mJ (λw=>w.1<(l.length:Int)) (.mJ (λw=>-1<=w.1) (.mA (λv=>[(7,I v)]) .mE))) (λs1 i w=>(cn.L1 l eB ad (cn.K1)) s1 i w.1)
 exact W
instance kC196:Ct 196:=⟨_,call196,@IH⟩
theorem vk(l:List aC)(a b):cn l a b<(l.length:Int):=by
 have key:∀(s:List aC)(i:Nat)(g:Int),i+s.length=l.length->g<(l.length:Int)->cn.L1 l a b cn.K1 s i g<(l.length:Int):=by
  intro s
  induction s with
  |nil=>intro i g _ hg;exact hg
  |cons y s ih=>
   intro i g hi hg
   simp only[xA]at hi
   simp only[cn.L1,Bool.cond_eq_ite]
   split
   .exact ih _ _ ob ob
   exact ih _ _ ob hg
 exact key l 0 (-1) (by simp) ob
theorem u9(h)(seq:List aE)(seq_v)(hseq:Itr prog seq_v vr seq h)(hsz:seq.length<=2000000):j0 prog 380 [zSN,seq_v] h (λv h'=>∃(rb0:Option Addr)(rc0:Nat),v=.slice rb0 (dj seq).length rc0/\SlC aE.rp h' rb0 rc0 (dj seq)):=by
 refine sVv func380 ntmps380 ?_
 generalize hz:(dj seq)=z
 have HA:=λ{b1}=>lR (.mF b1 (λl b c=>[.slice b l.length c]) 23 aE.rp 150 .mE) (λs w=>((dj.L1 (dj.K1)) s w.1))
 exact W
instance kC380:Ct 380:=⟨_,call380,@u9⟩
theorem CR(h a Xi Xh mR P8 P7)(ha:SlC X5 h Xi Xh a)(K6:SlC X5 h P8 P7 mR):Ret prog 310 [.slice Xi a.length Xh,.slice P8 mR.length P7] h (.bool (gx a mR)):=by
 refine sVv func310 ntmps310 ?_
 generalize hz:(gx a mR)=z
 have HA:=h0 [0,1] 5 (λs1 i=>(gx.L1 mR (gx.K1)) s1 i)
 exact W
instance kC310:Ct 310:=⟨_,call310,@CR⟩
theorem CT(rec:ai->ai->Bool)(h)(a:ai)(Ob mR sM)(hrec:∀(h:HF)(qa:ai)(VD:dO)(Uj:ai)(Nf:dO)(hqa:ai.ok h qa VD)(XM:ai.ok h Uj Nf)(_:qa.dep<a.dep),Ret prog 311 [.agg (ai.cells qa VD).toArray,.agg (ai.cells Uj Nf).toArray] h (.bool (rec qa Uj)))(ha:ai.ok h a Ob)(K6:ai.ok h mR sM):Ret prog 311 [.agg (ai.cells a Ob).toArray,.agg (ai.cells mR sM).toArray] h (.bool (bA.F rec a mR)):=by
 refine sVv func311 ntmps311 ?_
 generalize hz:(bA.F rec a mR)=z
 have HA:=h0 [2,3] 5 (λs1 i=>(bA.L1 rec mR (bA.K1)) s1 i)
 exact W
theorem tx:∀(m:Nat)(h:HF)(a:ai)(Ob:dO)(mR:ai)(sM:dO)(_:a.dep<=m)(ha:ai.ok h a Ob)(K6:ai.ok h mR sM),Ret prog 311 [.agg (ai.cells a Ob).toArray,.agg (ai.cells mR sM).toArray] h (.bool (bA.go m a mR))
 |0,h,a,Ob,mR,sM,hd,ha,K6=>absurd hd (Nat.not_le.2 (ai.ny _))
 |m+1,h,a,Ob,mR,sM,hd,ha,K6=>CT (bA.go m) h a Ob mR sM (λqh_ qa VD Uj Nf qha W6 qd=>tx m qh_ qa VD Uj Nf ob qha W6) ha K6
theorem DQ(h a Ob mR sM)(ha:ai.ok h a Ob)(K6:ai.ok h mR sM):Ret prog 311 [.agg (ai.cells a Ob).toArray,.agg (ai.cells mR sM).toArray] h (.bool (bA a mR)):=tx _ h a Ob mR sM (zE _) ha K6
instance kC311:Ct 311:=⟨_,call311,@DQ⟩
theorem Ae(h)(x:aA)(v0 v0_q v1 v1_q)(av0:At h v0_q [I v0])(av1:At h v1_q [I v1]):Ret prog 342 [.agg (aA.cells x).toArray,.pointer (some v0_q),.pointer (some v1_q)] h (.tuple #[.agg (jE ((jW x v0 v1).1)).toArray,.bool ((jW x v0 v1).2)]):=by
 refine el func342 U ntmps342 U λX hM hX=>?_
 have hs0:=@rfl _ (jW x v0 v1)
 refine sr (j2 (λb1=>cS zc325 (λb2=>qO 3 U ?_)))
 let z1:Nat×Obj:=(b1,O (aA.cells x) 76)
 refine Vl ([(b2,O [I x.dQ,I x.bw] 325),z1]) [(4,Q b2),(5,.bool (decide (x.At<=v0)&&decide (x.eH<=v1)))] (λe=>?_) (λhk1=>?_)
 rotate_left
 .refine hU ([z1]) mixed kr jn (λkI _=>?_)
  refine qB [0] U (tf 1 U U (rj 0 ty3 U U U) (qB [2] U (tf 3 U U (rj 0 ty3 U U U) (qB [5] U (tf 6 U U (rj 0 ty3 U U U) (tf 7 U U (rh ty3 av0 U) (qA [8,9] U ?_)))))))
  refine pk 15 U (λc1=>?_) (λc1=>?_)
  .have c1p:=of_decide_eq_true c1
   exact tf 10 U U (λ_ _ _=>AL VW U) (tf 11 U U (rj 0 ty3 U U U) (tf 12 U U (rh ty3 av1 U) (qA [13,14] U (tn 4 U (ia (cells:=[I x.dQ,I x.bw]) (places:=[(0,1),(1,1)]) Rh zc325 kr kr (⟨jn,(tn 15 U (tl 0 ty325 U U U U U U (⟨jn,(qA [16] U (dJ kr (hk1 _ ⟨U,(cb (show decide (x.eH<=v1)=(decide (x.At<=v0)&&decide (x.eH<=v1))from by rw[c1]<;>rfl)),trivial⟩)))⟩)))⟩))))))
  have c1p:=of_decide_eq_false c1
  exact tk 10 U U (qR 11 4 U (tn 4 U (ia (cells:=[I x.dQ,I x.bw]) (places:=[(0,1),(1,1)]) Rh zc325 kr kr (⟨jn,(tn 15 U (tl 0 ty325 U U U U U U (⟨jn,(qA [16] U (dJ kr (hk1 _ ⟨U,(cb (show false=(decide (x.At<=v0)&&decide (x.eH<=v1))from by rw[c1]<;>rfl)),trivial⟩)))⟩)))⟩))))
 have hs1:jW x v0 v1=((OSeat.mk x.dQ x.bw),(decide (x.At<=v0)&&decide (x.eH<=v1))):=hs0
 exact wk [.agg (vB [I x.dQ,I x.bw]),.bool (decide (x.At<=v0)&&decide (x.eH<=v1))] func342 U hX ⟨⟨0,_,_,_,_,U,U,.inl ⟨ty325,U⟩⟩,U,trivial⟩ (congrArg (λr:(OSeat×Bool)=>(.tuple #[.agg (jE r.1).toArray,.bool r.2]:Value)) hs1.symm)
instance kC342:Ct 342:=⟨_,call342,@Ae⟩
theorem uE(h q xm q_q)(aI:Int)(office_q)(hq:ba.ok h q xm)(aq:At h q_q (ba.cells q xm))(aoffice:At h office_q [I aI])(hno:0<=aI/\aI<(q.bh.length:Int))(hso:q.gv.Pairwise (·<=·))(hsw:q.gv.length<=2000000):Itr prog (.func (.func 405) #[] (vB [.pointer (some q_q),.pointer (some office_q)])) rg (eF q aI) h:=by
 refine vt call405 ?_
 generalize hz:eF q aI=z;have hs:=hz.symm
 intro yf ya yb C Sp Pn h1 A eT m1 m2 m3 hC hy
 refine sTY func405 U ntmps405 U λX hXM hX hF=>?_
 have hv:z=[]++z:=rfl
 have HA:=h0 [0,1,12,13] 14 (λs1 i=>(eF.L1 q (eF.K1)) s1)
 exact W
instance kI405:CtI 405:=⟨_,@uE⟩
theorem KE(h l eP eO ew)(hl:SlC jB h eP eO l):Ret prog 226 [.slice eP l.length eO,I ew] h (.bool (gI l ew)):=by
 refine sVv func226 ntmps226 ?_
 generalize hz:(gI l ew)=z
 have HA:=h0 [0,1] 5 (λs1 i=>(gI.L1 l ew (gI.K1 l)) s1 i)
 exact W
instance kC226:Ct 226:=⟨_,call226,@KE⟩
theorem GJ(h gv nd na)(hwho:SlC jB h nd na gv):Ret prog 295 [.slice nd gv.length na] h (.bool (fZ gv)):=by
 refine sVv func295 ntmps295 ?_
 generalize hz:(fZ gv)=z
 have HA:=h0 [0] 3 (λs1 i=>(fZ.L1 gv (fZ.K1)) s1 i)
 exact W
instance kC295:Ct 295:=⟨_,call295,@GJ⟩
theorem yl(h v0 Ar Aq v0_q v1 v1_q v2 v2_q v3 v3_q)(hv0:SlC ae.rp h Ar Aq v0)(av0:At h v0_q [.slice Ar v0.length Aq])(av1:At h v1_q [I v1])(av2:At h v2_q [I v2])(av3:At h v3_q [I v3]):Itr prog (.func (.func 401) #[] (vB [.pointer (some v0_q),.pointer (some v1_q),.pointer (some v2_q),.pointer (some v3_q)])) rW (de v0 v1 v2 v3) h:=by
 refine vt call401 ?_
 generalize hz:de v0 v1 v2 v3=z;have hs:=hz.symm
 intro yf ya yb C Sp Pn h1 A eT m1 m2 m3 hC hy
 refine sTY func401 U ntmps401 U λX hXM hX hF=>?_
 have hv:z=[]++z:=rfl
 have HA:=h0 [0,2,3,4,8,9] 10 (λs1 i=>(de.L1 v1 v2 v3 (de.K1)) s1)
 exact W
instance kI401:CtI 401:=⟨_,@yl⟩
theorem ym(h)(y:ae)(aW begun_q at_ at__q think think_q)(abegun:At h begun_q [I aW])(aat_:At h at__q [I at_])(athink:At h think_q [I think]):Ret prog 330 [.agg (ae.cells y).toArray,.pointer (some begun_q),.pointer (some at__q),.pointer (some think_q)] h (.bool (kz y aW at_ think)):=by
 refine sVv func330 ntmps330 ?_
 generalize hz:(kz y aW at_ think)=z
 exact W
theorem wi(rec:ba->ai->Bool)(h q xm)(x:ai)(gN)(hrec:∀(h:HF)(qq:ba)(EX:mI)(qx:ai)(mi:dO)(hqq:ba.ok h qq EX)(hqx:ai.ok h qx mi)(hok:OkX (qq.bh.length:Int) qx)(hso:qq.gv.Pairwise (·<=·))(hsw:qq.gv.length<=2000000)(_:qx.dep<x.dep),Ret prog 273 [.agg (ba.cells qq EX).toArray,.agg (ai.cells qx mi).toArray] h (.bool (rec qq qx)))(hq:ba.ok h q xm)(hx:ai.ok h x gN)(hok:OkX (q.bh.length:Int) x)(hso:q.gv.Pairwise (·<=·))(hsw:q.gv.length<=2000000)(hk4:x.Kind=4):Ret prog 348 [.agg (ba.cells q xm).toArray,.agg (ai.cells x gN).toArray] h (.bool (ml.F rec q x)):=by
 refine sT func348 U ntmps348 U λX hM hX hF=>?_
 have hs0:=@rfl _ (ml.F rec q x)
 have hl2:=hok.two hk4
 refine sr (j2 (λb1=>j2 (λb2=>qL 11 [1,0] U (dy hs0 U (λc1 hs1=>?_) (λc1 hs2=>?_)))))
 .have c1p:=of_decide_eq_true c1
  refine eI (hU ([(b2,O (ai.cells x gN) 59),(b1,O (ba.cells q xm) 292)]) mixed kr jn (λkI _=>tf 0 U U (λ_ _ hj=>nQ ty292 U (hj.nth (i:=1) U) U) (qB [1] U (tf 2 U U (rj 0 ty57 U U U) ?_))))
  have ho1:0<=(0:Int)/\(0:Int)<((x.L).length:Int):=ob
  refine sY 3 kI jn us ty59 hx.list.1 ho1 (eu ho1) U U U U kr (λq1 cs1 A1 ln1 rr1=>?_)
  obtain⟨r1,rfl,ok1⟩:=rr1
  exact tf 4 U U (λ_ _ hj=>s5 ty59 (A1.mono hj.1) U U) (tn 5 U (kg TB (hrec _ _ _ _ _ hq ok1 (hok.sub _ (lu ob)) ob ob (ai.lI (lu ob))) U (⟨jn,(qA [6] U (dJ kr (nretP [.bool (rec q (nthI x.L 0))] (cs hs1))))⟩)))
 have c1p:=of_decide_eq_false c1
 refine qT 2 U (hU ([(b2,O (ai.cells x gN) 59),(b1,O (ba.cells q xm) 292)]) mixed kr jn (λow _=>tf 0 U U (λ_ _ hj=>nQ ty292 U (hj.nth (i:=1) U) U) (qB [1] U (tf 2 U U (rj 0 ty57 U U U) ?_))))
 have ho2:0<=(1:Int)/\(1:Int)<((x.L).length:Int):=ob
 refine sY 3 ow jn us ty59 hx.list.1 ho2 (eu ho2) U U U U kr (λq2 cs2 A2 ln2 rr2=>?_)
 obtain⟨r2,rfl,ok2⟩:=rr2
 exact tf 4 U U (λ_ _ hj=>s5 ty59 (A2.mono hj.1) U U) (tn 5 U (kg TB (hrec _ _ _ _ _ hq ok2 (hok.sub _ (lu ob)) ob ob (ai.lI (lu ob))) U (⟨jn,(qA [6] U (dJ kr (nretP [.bool (rec q (nthI x.L 1))] (cs hs2))))⟩)))
theorem oT(h)(l:List fw)(b c G x gN)(hG:di fw.rp 275 h l b c G)(hx:fw.ok h x gN)(hsz:l.length<=2000000):
  qf prog 247 [.slice b l.length c,.agg (fw.cells x gN).toArray].toArray h G (λr h' G'=>∃b' c',h'=h/\r=.returned (.slice b' (rwPut l x).length c')/\di fw.rp 275 h (rwPut l x) b' c' G'):=by
 refine el func247 U ntmps247 U λX hM hX=>sr (j2 (λb1=>qO 7 U ?_))
 let z1:Nat×Obj:=(b1,.cells (fw.cells x gN).toArray 275 (0,0))
 refine lp0 l (λi=>[(0,.slice b l.length c),(3,Q b1),(5,I (i:Int))]) ([z1]++G) (λs _=>bif s.any (λw=>w.To==x.To)then l else l++[x]) hG.bound (show rwPut l x=_ from U) ?_ ?_ ?_
 .rintro i _ hs e
  replace hs:rwPut l x=l++[x]:=hs
  refine qT 3 U (ga 0 ty275 U U U (aS (cM (cells:=fw.cells x gN) Fz ty275 zc275 U U kr (λb2=>?_))))
  let z2:Nat×Obj:=(b2,.cells (fw.cells x gN).toArray 275 (0,0))
  refine aS (dN fw.ft ([z2,z1]) [] (λG'=>[z2,z1]++([]++G')) ap (λ_=>U) Fz ty275 zc275 U bytes275 hG U U
   (gQ 0 rfl (show bW fw.rp h (fw.cells x gN) [x]from⟨fw.cells x gN,[],rfl,rfl,⟨gN,rfl,hx⟩,rfl⟩)) lo lo (λb3 c3 G3 hG3=>?_))
  refine an ?_
  refine ra func247 (λa ha w hw=>res1 U a ha w) (λw hw=>(hw.sub (L':=G3) js).lower) ⟨b3,c3,hX,?_,?_⟩
  .rw[hs];rfl
  rw[hs];exact hG3
 .rintro i y r hd hlt hget hltp hbd hs hx1 ag e
  obtain⟨bk,hbk⟩:=hG.pE ob
  refine qK 6 [] rfl (tO hlt rfl (qO 6 rfl (hU ([z1]++G) mixed kr jn (λhsep hJ=>j5 0 hsep hJ rfl rfl kr rfl (λ_ _ _=>nT) (j5 1 hsep hJ rfl rfl kr rfl (λ_ _ _=>nT) (j5 2 hsep hJ rfl rfl kr rfl (λ_ _ _=>nU (R:=fw.rp) (xs:=l) (z:=(i:Int)) Fz ty275 hbk ob rfl rfl rfl) (j5 3 hsep hJ rfl rfl kr rfl (λ_ _ _=>AL PP rfl) (j5 4 hsep hJ rfl rfl kr rfl (λ_ _ hj=>Cz (R:=fw.rp) (i:=(i:Int).toNat) (off:=1) ty3 hG hbk (jk hget) (λcs_z hcs=>by obtain⟨q,e1,_⟩:=hcs;rw[e1];rfl) rfl (λp hp=>hj.2 p (List.mem_append_right _ hp))) (j5 5 hsep hJ rfl rfl kr rfl (λ_ _ _=>AL PP rfl) (j5 6 hsep hJ rfl rfl kr rfl (rj 0 ty3 rfl rfl rfl) ?_))))))))))
  refine j5 7 hsep hJ U U kr U (λ_ _ _=>RF U) (dJ kr (lL (t:=y.To==x.To) U (λc1=>?_) (λc1=>?_)))
  .replace hs:rwPut l x=l:=hs.trans (by simp only[List.any_cons,c1,Bool.true_or,cond_true])
   refine qT 5 U ?_
   refine ra func247 (λa ha w hw=>res1 U a ha w) (λw hw=>(hw.sub (List.sublist_append_right _ _)).lower) ⟨b,c,hX,?_,?_⟩
   .rw[hs];rfl
   rw[hs];exact hG
  exact jf (qT 3 U (oi i U (an (ag (hs.trans (by simp only[List.any_cons,c1,Bool.false_or]))))))
 rintro i hd hge hx e
 exact qK 6 [] U (fO hge U (qO 3 U (hx _ rd)))
end
end Go.Sg
