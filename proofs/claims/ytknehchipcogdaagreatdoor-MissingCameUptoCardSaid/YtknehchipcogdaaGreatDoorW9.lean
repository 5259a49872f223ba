import Derived.Test.YtknehchipcogdaaGreatDoorW8
/- A part of the proof of MissingCame. -/
set_option linter.unusedVariables false
set_option linter.unusedSimpArgs false
set_option maxRecDepth 100000
open List renaming length_cons→xA,length_append→vA,length_nil→jB,toArray→kB,append_assoc→zC
open Go.Sg.HF renaming le_trans→kA,le→jL
open Go.Sg.Rp renaming int→vB,bU→kM,bool→Yy,str→YL,jx→ZF
open Go.IntKind renaming wrap→vC
open Go.Sg.Register renaming cells→qD,ok→vL
open Nat renaming le_refl→xE,zero_le→jH,le_trans→kK
open Go.Sg.OSeat renaming cells→xF,enc→xV
open Go.Sg.SlC renaming nil→qH
open Go.Obj renaming cells→zH

namespace Go.Sg
section
open Go.Proofs Go.Proofs.Tryz
set_option maxHeartbeats 2000000
theorem AZ(h)(m:List (OSeat×aQ))(Rg m_q bw office_q)(hm:uY xV (lY aQ.rp) h Rg m)(am:At h m_q [.map (some Rg)])(aoffice:At h office_q [I bw])(hsz:m.length<=1000000000):Itr prog (.func (.func 338) #[] (kB [.pointer (some m_q),.pointer (some office_q)])) qI (bZ m bw) h:=by
 refine sR call338 ?_
 intro yf ya yb C Sp Pn h1 A dN m1 m2 m3 hC hy
 refine mP S7 U ntmps338 U λX hXM hX=>?_
 have hs0:bZ m bw=[]++bZ m bw:=rfl
 refine qT 6 U (fV ty288 (am.mono dN) U (aM (cW call341 (Bf h1 m Rg (hm.mono (lY.mono aQ.aK) dN)) U (λv1 h2 hle1 hp1=>cN (aM (cW call340 (xh h2 v1 (m.map Prod.fst) hp1 (by rw[List.length_map];omega)) U (λv2 h3 hle2 hp2=>?_)))))))
 obtain⟨rb1,rc1,ys_,hper_,hsrt_,rfl,sl1⟩:=hp2
 have XX:bZ m bw=[]++((bZ.L1 m bw (bZ.K1)) ys_):=KG (by obtain⟨_,_,q⟩:=hm;exact q.nodup) hper_ hsrt_
 refine qL 3 [] U ?_
 refine lp2 ys_ (λi w=>[(0,.func yf ya yb),(1,.pointer (some m_q)),(2,.pointer (some office_q)),(11,.slice rb1 ys_.length rc1),(12,I (ys_.length:Int)),(13,I (i:Int))]) (λw=>w.2.2) (λw=>w.2.1) (λi w=>C w.1 w.2.2 w.2.1/\jL h3 w.2.2) (λs1 i w=>w.1++(bZ.L1 m bw (bZ.K1)) s1) ([],A,h3) sl1.1.1 XX ⟨(m1 _ _ _ _ (hle1.t hle2) hC),lf⟩ ?_ ?_
 .rintro i1 ⟨dn1,A1_,hh1⟩ m4 hs1 ⟨hC1_,hl1⟩ e
  refine ij ?_
  have hs2:bZ m bw=dn1:=hs1.trans (List.append_nil _)
  exact Bo [] (A:=A1_) S7 U (List.Sublist.refl _) (.inl (hs2▸hC1_))
 rintro i1 ⟨dn1,A1_,hh1⟩ y1 rz1 hd1 mN kl oD yD hs3 ⟨hC1_,hl1⟩ hx1 ag1 e
 refine sr (tO mN U (qO 8 U (aM (iF xF Wd ty325 (sl1.mono OSeat.aK hl1).1 kl U U U (λq2 A2=>gV ty325 A2 U U (cD zc325 (λb3=>ct 0 ty325 U U U U U U (kX (L':=[(b3,O (xF y1) 325)]++(A1_)) U (qO 3 U (fV ty288 (am.mono (((dN.t hle1).t hle2).t hl1)) U (eS 0 ty325 U U U ?_)))))))))))
 obtain⟨o2,hb2,hm2⟩:=(hm.mono (lY.mono aQ.aK) (((dN.t hle1).t hle2).t hl1))
 refine aM (rg (k:=y1) underlying288 IP hb2 hm2 (fG zv76) (show(lY aQ.rp) _ (.agg (kB [I 0,I 0,I 0,I 0,I 0,I 0,.bool false])) (aQ.mk 0 0 0 0 0 0 false)from⟨_,U,U⟩) U U (λv4 hv2=>?_))
 obtain⟨_,rfl,rfl⟩:=hv2
 refine cD zc76 (λb4=>ct 0 ty76 U U U U U U (kX (L':=[(b4,O (aQ.cells (mgetD m y1 (aQ.mk 0 0 0 0 0 0 false))) 76),(b3,O (xF y1) 325)]++(A1_)) U (qL 5 [1] U (fV ty3 (aoffice.mono (((dN.t hle1).t hle2).t hl1)) U (qO 2 U (nY 4 [24,25,26,27,28] 24 28 (!((mgetD m y1 (aQ.mk 0 0 0 0 0 0 false)).nA)) U (λc1 hk1=>?_) (λe=>?_)))))))
 .exact qL 4 [0] U (hk1 _ U)
 refine cN (vo 29 U (λc2=>?_) (λc2=>?_))
 .have hs4:=hs3.trans (congrArg (dn1++·) (bt c2))
  refine qL 5 [0,0] U (aM (ja (cells:=[I ((mgetD m y1 (aQ.mk 0 0 0 0 0 0 false)).dz),I ((mgetD m y1 (aQ.mk 0 0 0 0 0 0 false)).gG)]) (places:=[(0,1),(1,1)]) underlying284 zc284 kr kr ?_))
  have hx1:bZ m bw=dn1++((cm.mk ((mgetD m y1 (aQ.mk 0 0 0 0 0 0 false)).dz) ((mgetD m y1 (aQ.mk 0 0 0 0 0 0 false)).gG))::(bZ.L1 m bw (bZ.K1) rz1)):=hs4
  refine aM (qn ([(b4,O (aQ.cells (mgetD m y1 (aQ.mk 0 0 0 0 0 0 false))) 76),(b3,O (xF y1) 325)]) A1_ ap (hy dn1 (cm.mk ((mgetD m y1 (aQ.mk 0 0 0 0 0 0 false)).dz) ((mgetD m y1 (aQ.mk 0 0 0 0 0 0 false)).gG)) _ _ _ _ hx1 ((hle1.t hle2).t hl1) hC1_ U) U U (λh4 A3 hle3 hC1=>?_) (λh5 A4 hle4 hS1=>?_) (λch1 h6 A5 hle5 hP1 e=>mz (xO [] (A:=A5) S7 (List.sublist_append_right _ _) hP1)))
  .have hs5:bZ m bw=(dn1++[(cm.mk ((mgetD m y1 (aQ.mk 0 0 0 0 0 0 false)).dz) ((mgetD m y1 (aQ.mk 0 0 0 0 0 0 false)).gG))])++((bZ.L1 m bw (bZ.K1) rz1)):=hx1.trans ap
   exact qf U (qO 6 U (oi i1 U (qO 2 U (dE (L':=A3) js (ag1 ((dn1++[(cm.mk ((mgetD m y1 (aQ.mk 0 0 0 0 0 0 false)).dz) ((mgetD m y1 (aQ.mk 0 0 0 0 0 0 false)).gG))]),A3,h4) hs5 ⟨hC1,(hl1.t hle3)⟩)))))
  exact qf U (qO 3 U (ij (xI [] (A:=A4) S7 U js (.inr hS1))))
 have hs6:=hs3.trans (congrArg (dn1++·) (bf c2))
 exact kq (qO 12 U (oi i1 U (qO 2 U (dE (L':=A1_) js (ag1 (dn1,A1_,hh1) hs6 ⟨hC1_,hl1⟩)))))
instance kI338:CtI 338:=⟨_,@AZ⟩
theorem C6(h)(m:List (OSeat×aQ))(Rg bw)(hm:uY xV (lY aQ.rp) h Rg m)(hsz:m.length<=1000000000):jv prog 269 [.map (some Rg),I bw] h (λv h'=>∃(rv0:Value),v=rv0/\Itr prog rv0 qI (oB m bw) h'):=by
 refine sVv func269 ntmps269 ?_
 generalize hz:(oB m bw)=z
 exact W
instance kC269:Ct 269:=⟨_,call269,@C6⟩
theorem we(h l fm fj bw bD ah)(hl:SlC aQ.rp h fm fj l)(hsz:l.length<=2000000):jv prog 181 [.slice fm l.length fj,I bw,I bD,I ah] h (λv h'=>∃(rb0:Option Addr)(rc0:Nat),v=.tuple #[.slice rb0 ((iY l bw bD ah).1).length rc0,I ((iY l bw bD ah).2)]/\SlC cm.rp h' rb0 rc0 ((iY l bw bD ah).1)):=by
 refine sVv func181 ntmps181 ?_
 generalize hz:(iY l bw bD ah)=z
 have gk:=trivial
 have q0:=@DE
 have q1:=@F8
 exact W
instance kC181:Ct 181:=⟨_,call181,@we⟩
theorem w8(h j9 oZ oY)(hwho:SlC vB h oZ oY j9):Ret prog 272 [.slice oZ j9.length oY] h (.bool (dQ j9)):=by
 refine sVv func272 ntmps272 ?_
 generalize hz:(dQ j9)=z
 have HA:=h1 [6,7] 8 (λw=>[(3,I w)]) (λs1 i w=>(dQ.L1 (dQ.K1)) s1 w)
 exact W
theorem Fb(h)(dg:List (List cm))(ml mj aE)(Bs:SlC (Rp.sl cm.rp) h ml mj dg)(hsz0:∀y∈dg,y.length<=2000000):Ret prog 271 [.slice ml dg.length mj,I aE] h (.bool (dW dg aE)):=by
 refine sT func271 U ntmps271 U λX hM hX hF=>?_
 have hs0:=@rfl _ (dW dg aE)
 refine qK 11 [] U ?_
 refine lp2 dg (λi w=>[(0,.slice ml dg.length mj),(1,I aE),(10,.slice ml dg.length mj),(11,I (dg.length:Int)),(12,I (i:Int))]) (λw=>w) (λw=>[]) (λi w=>jL h w) (λs1 i w=>(dW.L1 (dW.K1 dg aE)) s1) h Bs.1.1 hs0 lf ?_ ?_
 .rintro i1 hh1 m4 hs1 hl1 e
  try dsimp only at hl1
  exact qK 8 [] U (nretP [.bool ((dg.length:Int)==aE)] (cs hs1))
 rintro i1 hh1 y1 rz1 hd1 mN kl oD yD hs3 hl1 hx1 ag1 e
 try dsimp only at hl1
 have hszy:=hsz0 y1 (eM hd1)
 refine sr (tO mN U (qO 8 U (aM (iG underlying240 ty241 (Bs.mono (Rp.Mn cm.aK) hl1).1 kl U U U (λq3 cs2 A3 ln2 rr2=>?_)))))
 obtain⟨rb2,rc2,rfl,sl2⟩:=rr2
 refine fV ty241 A3 U (qL 13 [] U ?_)
 refine lp2 y1 (λi w=>[(0,.slice ml dg.length mj),(1,I aE),(7,.slice w.2.1 w.1.length w.2.2.1),(10,.slice ml dg.length mj),(11,I (dg.length:Int)),(12,I (i1:Int)),(16,.slice rb2 y1.length rc2),(17,I (y1.length:Int)),(18,I (i:Int))]) (λ_=>hh1) (λw=>w.2.2.2) (λi w=>cI vB 3 hh1 w.1 w.2.1 w.2.2.1 w.2.2.2/\w.1.length<=0+i) (λs3 i w=>(dW.L3 (λzg3_7=>(bif(!(dQ zg3_7))then false else(dW.L1 (dW.K1 dg aE) rz1)))) s3 w.1) ([],none,0,[]) sl2.1.1 hs3 ⟨cI.nil,lo⟩ ?_ ?_
 .rintro i3 ⟨Ei,XA,Xz,Uu⟩ Ed hs4 ⟨OZ,Ut⟩ e
  try dsimp only at OZ Ut
  refine qT 3 U (sL kM ([]) Uu ([]) ap hM OZ (λh1 hle1 sl3=>dP call272 (w8 _ _ _ _ sl3) U (qO 2 U (cQ hs4 U (λc2 hs5=>?_) (λc2 hs6=>?_)))))
  .exact sr (an (nretP [.bool false] (cs hs5)))
  exact iL (qT 2 U (oi i1 U (qO 2 U (ag1 h1 hs6 (hl1.t hle1)))))
 rintro i3 ⟨Ei,XA,Xz,Uu⟩ y3 rz3 hd3 Qa Um OY X4 hs8 ⟨OZ,Ut⟩ hx3 ag2 e
 try dsimp only at OZ Ut
 refine sr (tO Qa U (qO 8 U (aM (iF cm.cells underlying241 ty284 sl2.1 Um U U U (λq5 A5=>gV ty284 A5 U U (cD zc284 (λb3=>ct 0 ty284 U U U U U U (kX (L':=[(b3,O (cm.cells y3) 284)]++(Uu)) U (qL 8 [0] U (nH 4 [25,26,27,28,29] 25 29 (decide (64<y3.gG)) U (λc3 hk1=>?_) (λe=>?_)))))))))))
 .exact qL 4 [0] U (hk1 _ U)
 refine bM (cQ hs8 U (λc4 hs9=>?_) (λc4 hs10=>?_))
 .exact sr (an (nretP [.bool false] (cs hs9)))
 exact qK 5 [0] U (aM (bW (cells:=[I y3.dz]) fa ty3 zc3 U U kr (λb4=>aM (fd Rp.j4 ([(b4,O [I y3.dz] 3),(b3,O (cm.cells y3) 284)]) ([]) (λG=>[(b4,O [I y3.dz] 3),(b3,O (cm.cells y3) 284)]++G) ap (λ_=>ap) fa ty3 zc3 U bytes3 OZ U U (iM 0 U (cE (y3.dz) U U)) lo lo (λob1 oc1 G1 gr1=>qO 4 U (oi i3 U (qO 2 U (dE (L':=G1) js (ag2 ((Ei++[y3.dz]),ob1,oc1,G1) hs10 ⟨gr1,lo⟩)))))))))
theorem uO(h q xZ q_q)(bw:Int)(office_q)(hq:bh.ok h q xZ)(aq:At h q_q (bh.cells q xZ))(aoffice:At h office_q [I bw])(hno:0<=bw/\bw<(q.dg.length:Int))(hso:q.j9.Pairwise (·<=·))(hsw:q.j9.length<=2000000):Itr prog (.func (.func 405) #[] (kB [.pointer (some q_q),.pointer (some office_q)])) qI (eh q bw) h:=by
 refine sR call405 ?_
 generalize hz:eh q bw=z;have hs:=hz.symm
 intro yf ya yb C Sp Pn h1 A dN m1 m2 m3 hC hy
 refine sTY func405 U ntmps405 U λX hXM hX hF=>?_
 have hv:z=[]++z:=rfl
 have HA:=h0 [0,1,12,13] 14 (λs1 i=>(eh.L1 q (eh.K1)) s1)
 exact W
instance kI405:CtI 405:=⟨_,@uO⟩
theorem pP(h q xZ)(bw:Int)(hq:bh.ok h q xZ)(hno:0<=bw/\bw<(q.dg.length:Int))(hso:q.j9.Pairwise (·<=·))(hsw:q.j9.length<=2000000):jv prog 389 [.agg (bh.cells q xZ).toArray,I bw] h (λv h'=>∃(rv0:Value),v=rv0/\Itr prog rv0 qI (eT q bw) h'):=by
 refine sVv func389 ntmps389 ?_
 generalize hz:(eT q bw)=z
 exact W
instance kC389:Ct 389:=⟨_,call389,@pP⟩
end
section
open Go.Proofs Go.Proofs.Tryz
theorem Nu(h:HF)(x:cm)(s:Int)(bk:Nat):oX prog 390 [.agg (cm.cells x).toArray,.pointer (some ⟨bk,0,none⟩)].toArray h [(bk,zH (kB [.int .i64 s]) 3 (0,0))]
  (λr h' B=>r=.returned (.tuple #[])/\h'=h/\B=[(bk,zH (kB [.int .i64 (vC .i64 (s+x.gG))]) 3 (0,0))]):=by
 refine dL func390 rfl ntmps390 rfl λX hM hX=>?_
 refine dZ (bS (iA (λb2=>bM (bS (pJ 1 ty3 rfl rfl rfl (lj UK rfl (pJ 0 ty3 rfl rfl rfl (Ra rfl (dD 1 ty3 rfl rfl rfl rfl rfl rfl (bM ?_))))))))))
 exact AE func390 (λa _ w _=>nJ rfl a w) (λw hw=>hw.sub (List.sublist_cons_self _ _)) ⟨rfl,rfl,rfl⟩
end
section
open Go.Proofs Go.Proofs.Tryz
set_option maxHeartbeats 2000000
theorem xq(h q xZ x gU)(hq:bh.ok h q xZ)(hx:ao.ok h x gU)(hno:0<=x.No/\x.No<(q.dg.length:Int))(hso:q.j9.Pairwise (·<=·))(hsw:q.j9.length<=2000000):Ret prog 345 [.agg (bh.cells q xZ).toArray,.agg (ao.cells x gU).toArray] h (.bool (fD q x)):=by
 refine sVv func345 ntmps345 ?_
 generalize hz:(fD q x)=z
 have HA:=λ{b3}=>lS z (λw=>w.1) (.mD b3 (λv=>[.bool v]) 4 .mE) (λs w=>((fD.L1 (fD.K1)) s w.1))
 exact W
theorem wa(h q xZ x gU)(hq:bh.ok h q xZ)(hx:ao.ok h x gU)(hno:0<=x.No/\x.No<(q.dg.length:Int))(hso:q.j9.Pairwise (·<=·))(hsw:q.j9.length<=2000000):Ret prog 346 [.agg (bh.cells q xZ).toArray,.agg (ao.cells x gU).toArray] h (.bool (de q x)):=by
 refine dL func346 U ntmps346 U λX hM hX=>?_
 have hs0:=@rfl _ (de q x)
 refine sr (iA (λb1=>iA (λb2=>qO 4 U (cD zc3 (λb3=>dD 0 ty3 U U U U U U (qO 3 U (aM (jy U U (cD zc409 (λb4=>dD 0 ty409 U U U U U U (qO 4 U (eS 3 ty292 U U U (qL 2 [2] U (aM (cW call389 (pP _ _ _ x.No hq ob ob ob) U (λv1 h1 hle1 hp1=>?_))))))))))))))))
 obtain⟨_,rfl,mo1⟩:=hp1
 refine qO 2 U (ij ?_)
 let z1:Nat×Obj:=(b4,O [.func (.func 390) #[] #[Q b3]] 409)
 let z2:Nat×Obj:=(b1,O (bh.cells q xZ) 292)
 let z3:Nat×Obj:=(b2,O (ao.cells x gU) 59)
 refine dV (L':=([z1,(b3,O [I 0] 3),z3,z2])++markB []) ap ?_
 refine nF (it:=v1) (xs:=(eT q x.No)) (ι:=Int×HF) [] (λi=>i.2) (λi=>[z1,(b3,O [I i.1] 3),z3,z2]) (λs i=>de q x=((de.L1 (de.K1 x)) s i.1)/\jL h1 i.2) (λ_=>False) (λ_=>False) 0 (λ_ _ _=>False) (0,h1) func346 U mo1 U Bn (λ_ _ _ _ _ hq=>hq) U (show[z1,(b3,O [I 0] 3),z3,z2]=_ from U) ⟨hs0,lf⟩ ?_ ?_ ?_ ?_ ?_
 .rintro l1 dm1 lp1 y1 rz1 vs1 ⟨cG,hh1⟩ hr1 X hFR1 ⟨hs1,hl1⟩ hl01 hlr1 hv1 hX hXM hlp1 nx1 rt1 ex1 pn1
  obtain rfl:=hv1
  refine dV (L':=[(l1,.loop lp1),(dm1,.deferred (some [])),z1,(b3,O [I cG] 3),z3,z2]++(markB [])) ap (bS (cD zc284 (λb6=>ct 0 ty284 U U U U U U (bM (mU 1 U hlp1 (qK 3 [3] U (eS 0 ty284 U U U (aM (TK 4 (o':=O [I (vC .i64 (cG+y1.gG))] 3) U (nI (args:=[.agg (cm.cells y1).toArray]) (cap:=[Q b3]) call390 (Nu hr1 y1 cG b3)) U U (qO 2 U ?_))))))))))
  let z4:Nat×Obj:=(b3,O [I (vC .i64 (cG+y1.gG))] 3)
  exact dE (L':=[(l1,.loop { lp1 with state:=.busy }),(dm1,.deferred (some [])),z1,z4,z3,z2]++(markB [])) js (dV (L':=rdH l1 dm1 lp1 (([z1,z4,z3,z2])++markB [])) ap (nx1 ((vC .i64 (cG+y1.gG)),hr1) _ _ ⟨hs1,(hl1.t hlr1)⟩ lf))
 .rintro dm1 ⟨cG,hh1⟩ hn1 ⟨hs2,hl1⟩ hln1 hl01
  refine dV (L':=[z1,(b3,O [I cG] 3),z3,z2]++(markB (dm1::[]))) ap (qK 9 [1,2] U ?_)
  have hs3:de q x=decide (x.N<=cG):=hs2
  exact dV (L':=([z1,(b3,O [I cG] 3),z3,z2])++markB (dm1::[])) ap (Dx (dm1::[]) [.bool (decide (x.N<=cG))] func346 U hX rd (cs hs3))
 .exact xf
 .exact xf
 exact xf
instance kR273:Cl 273:=⟨QK⟩
theorem yo(rec:bh->ao->Bool)(h q xZ)(x:ao)(gU)(hrec:∀(h:HF)(qq:bh)(E9:my)(qx:ao)(mt:dJ)(hqq:bh.ok h qq E9)(hqx:ao.ok h qx mt)(hok:OkX (qq.dg.length:Int) qx)(hso:qq.j9.Pairwise (·<=·))(hsw:qq.j9.length<=2000000)(_:qx.dep<x.dep),Ret prog 273 [.agg (bh.cells qq E9).toArray,.agg (ao.cells qx mt).toArray] h (.bool (rec qq qx)))(hq:bh.ok h q xZ)(hx:ao.ok h x gU)(hok:OkX (q.dg.length:Int) x)(hso:q.j9.Pairwise (·<=·))(hsw:q.j9.length<=2000000):Ret prog 347 [.agg (bh.cells q xZ).toArray,.agg (ao.cells x gU).toArray] h (.bool (eo.F rec q x)):=by
 refine sVv func347 ntmps347 ?_
 generalize hz:(eo.F rec q x)=z
 have w0:=λ{y}(a:y∈_)=>hok.sub y a
 have HA:=h1 [2,3,9,10] 11 (λw=>[(5,I w)]) (λs1 i w=>(eo.L1 rec q (eo.K1 x)) s1 w)
 exact W
theorem wN(rec:bh->ao->Bool)(h q xZ)(x:ao)(gU)(hrec:∀(h:HF)(qq:bh)(E9:my)(qx:ao)(mt:dJ)(hqq:bh.ok h qq E9)(hqx:ao.ok h qx mt)(hok:OkX (qq.dg.length:Int) qx)(hso:qq.j9.Pairwise (·<=·))(hsw:qq.j9.length<=2000000)(_:qx.dep<x.dep),Ret prog 273 [.agg (bh.cells qq E9).toArray,.agg (ao.cells qx mt).toArray] h (.bool (rec qq qx)))(hq:bh.ok h q xZ)(hx:ao.ok h x gU)(hok:OkX (q.dg.length:Int) x)(hso:q.j9.Pairwise (·<=·))(hsw:q.j9.length<=2000000)(hk4:x.Kind=4):Ret prog 348 [.agg (bh.cells q xZ).toArray,.agg (ao.cells x gU).toArray] h (.bool (lG.F rec q x)):=by
 refine sT func348 U ntmps348 U λX hM hX hF=>?_
 have hs0:=@rfl _ (lG.F rec q x)
 have hl2:=hok.two hk4
 refine sr (iA (λb1=>iA (λb2=>qL 11 [1,0] U (cQ hs0 U (λc1 hs1=>?_) (λc1 hs2=>?_)))))
 .have c1p:=of_decide_eq_true c1
  refine dZ (fQ ([(b2,O (ao.cells x gU) 59),(b1,O (bh.cells q xZ) 292)]) mixed kr jn (λlA _=>tf 0 U U (λ_ _ hj=>oA ty292 U (hj.nth (i:=1) U) U) (qB [1] U (tf 2 U U (rj 0 ty57 U U U) ?_))))
  have ho1:0<=(0:Int)/\(0:Int)<((x.L).length:Int):=ob
  refine sZ 3 lA jn uB ty59 hx.list.1 ho1 (eH ho1) U U U U kr (λq1 cs1 A1 ln1 rr1=>?_)
  obtain⟨r1,rfl,ok1⟩:=rr1
  exact tf 4 U U (λ_ _ hj=>uL ty59 (A1.mono hj.1) U U) (tn 5 U (jq QK (hrec _ _ _ _ _ hq ok1 (hok.sub _ (nm ob)) ob ob (ao.lB (nm ob))) U (⟨jn,(qA [6] U (dO kr (nretP [.bool (rec q (nthI x.L 0))] (cs hs1))))⟩)))
 have c1p:=of_decide_eq_false c1
 refine qT 2 U (fQ ([(b2,O (ao.cells x gU) 59),(b1,O (bh.cells q xZ) 292)]) mixed kr jn (λpc _=>tf 0 U U (λ_ _ hj=>oA ty292 U (hj.nth (i:=1) U) U) (qB [1] U (tf 2 U U (rj 0 ty57 U U U) ?_))))
 have ho2:0<=(1:Int)/\(1:Int)<((x.L).length:Int):=ob
 refine sZ 3 pc jn uB ty59 hx.list.1 ho2 (eH ho2) U U U U kr (λq2 cs2 A2 ln2 rr2=>?_)
 obtain⟨r2,rfl,ok2⟩:=rr2
 exact tf 4 U U (λ_ _ hj=>uL ty59 (A2.mono hj.1) U U) (tn 5 U (jq QK (hrec _ _ _ _ _ hq ok2 (hok.sub _ (nm ob)) ob ob (ao.lB (nm ob))) U (⟨jn,(qA [6] U (dO kr (nretP [.bool (rec q (nthI x.L 1))] (cs hs2))))⟩)))
theorem UH(rec:bh->ao->Bool)(h q xZ x gU)(hq:bh.ok h q xZ)(hx:ao.ok h x gU)(hrec:∀(h:HF)(qq:bh)(E9:my)(qx:ao)(mt:dJ)(_:bh.ok h qq E9)(_:ao.ok h qx mt)(_:OkX (qq.dg.length:Int) qx)(_:qq.j9.Pairwise (·<=·))(_:qq.j9.length<=2000000)(_:qx.dep<x.dep),Ret prog 273 [.agg (bh.cells qq E9).toArray,.agg (ao.cells qx mt).toArray] h (.bool (rec qq qx)))(hok:OkX (q.dg.length:Int) x)(hso:q.j9.Pairwise (·<=·))(hsw:q.j9.length<=2000000):
  ra prog (List.getD [.nilFunc,.func (.func 345) #[] #[],.func (.func 346) #[] #[],.func (.func 347) #[] #[],.func (.func 348) #[] #[]] x.Kind.toNat .nilFunc) [.agg (bh.cells q xZ).toArray,.agg (ao.cells x gU).toArray] h [] (.bool (fulQ rec q x)):=by
 have hk:=hok.kind
 have hc:x.Kind=1\/x.Kind=2\/x.Kind=3\/x.Kind=4:=by omega
 rcases hc with e|e|e|e
 .rw[show fulQ rec q x=fD q x from by simp[fulQ,e],e];exact jd (cap:=[]) call345 (xq h q xZ x gU hq hx (hok.no ob) hso hsw)
 .rw[show fulQ rec q x=de q x from by simp[fulQ,e],e];exact jd (cap:=[]) call346 (wa h q xZ x gU hq hx (hok.no ob) hso hsw)
 .rw[show fulQ rec q x=eo.F rec q x from by simp[fulQ,e],e];exact jd (cap:=[]) call347 (yo rec h q xZ x gU hrec hq hx hok hso hsw)
 rw[show fulQ rec q x=lG.F rec q x from by simp[fulQ,e],e];exact jd (cap:=[]) call348 (wN rec h q xZ x gU hrec hq hx hok hso hsw e)
theorem uN(rec:bh->ao->Bool)(h q xZ)(x:ao)(gU)(hrec:∀(h:HF)(qq:bh)(E9:my)(qx:ao)(mt:dJ)(hqq:bh.ok h qq E9)(hqx:ao.ok h qx mt)(hok:OkX (qq.dg.length:Int) qx)(hso:qq.j9.Pairwise (·<=·))(hsw:qq.j9.length<=2000000)(_:qx.dep<x.dep),Ret prog 273 [.agg (bh.cells qq E9).toArray,.agg (ao.cells qx mt).toArray] h (.bool (rec qq qx)))(hq:bh.ok h q xZ)(hx:ao.ok h x gU)(hok:OkX (q.dg.length:Int) x)(hso:q.j9.Pairwise (·<=·))(hsw:q.j9.length<=2000000):Ret prog 273 [.agg (bh.cells q xZ).toArray,.agg (ao.cells x gU).toArray] h (.bool (cS.F rec q x)):=by
 refine sT func273 U ntmps273 U λX hM hX hF=>?_
 have hs0:=@rfl _ (cS.F rec q x)
 have hkd:=hok.kind
 refine sr (iA (λb1=>iA (λb2=>qO 4 U (aM (TL (cells:=[.nilFunc,.func (.func 345) #[] #[],.func (.func 346) #[] #[],.func (.func 347) #[] #[],.func (.func 348) #[] #[]]) underlying360 ty359 zc360 kr (cD zc360 (λb3=>ct 0 ty360 U U U U U U (qO 2 U (gM 0 U hM (λh1 hle1 hb1=>fQ ([(b2,O (ao.cells x gU) 59),(b1,O (bh.cells q xZ) 292)]) mixed kr jn (λlA _=>qB [0] U (tf 1 U U (rj 0 ty3 U U U) ?_))))))))))))
 have ho1:0<=(x.Kind:Int)/\(x.Kind:Int)<5:=ob
 have A1:=W8 (fJ hb1) ho1
 exact tf 2 U U (λ_ _ _=>TS underlying360 ty359 U U ho1) (tf 3 U U (rh ty359 A1 U) (tf 4 U U (λ_ _ hj=>oA ty292 U (hj.nth (i:=1) U) U) (tf 5 U U (λ_ _ hj=>oA ty59 U (hj.nth (i:=0) U) U) (tn 6 U (kj (v:=.bool (fulQ rec q x)) [] (List.nil_sublist _) (UH rec h1 q xZ x gU (hq.mono hle1) (hx.mono hle1) hrec hok hso hsw) U U (⟨jn,(qA [7] U (dO kr (nretP [.bool (fulQ rec q x)] (cs hs0))))⟩))))))
theorem nW:∀(m:Nat)(h:HF)(q:bh)(xZ:my)(x:ao)(gU:dJ)(_:x.dep<=m)(hq:bh.ok h q xZ)(hx:ao.ok h x gU)(hok:OkX (q.dg.length:Int) x)(hso:q.j9.Pairwise (·<=·))(hsw:q.j9.length<=2000000),Ret prog 273 [.agg (bh.cells q xZ).toArray,.agg (ao.cells x gU).toArray] h (.bool (cS.go m q x))
 |0,h,q,xZ,x,gU,hd,hq,hx,hok,hso,hsw=>absurd hd (Nat.not_le.2 (ao.np _))
 |m+1,h,q,xZ,x,gU,hd,hq,hx,hok,hso,hsw=>uN (cS.go m) h q xZ x gU (λqh_ qq E9 qx mt qhq qhx qhok qhso qhsw qd=>nW m qh_ qq E9 qx mt ob qhq qhx qhok qhso qhsw) hq hx hok hso hsw
theorem px(h q xZ x gU)(hq:bh.ok h q xZ)(hx:ao.ok h x gU)(hok:OkX (q.dg.length:Int) x)(hso:q.j9.Pairwise (·<=·))(hsw:q.j9.length<=2000000):Ret prog 273 [.agg (bh.cells q xZ).toArray,.agg (ao.cells x gU).toArray] h (.bool (cS q x)):=nW _ h q xZ x gU (xE _) hq hx hok hso hsw
instance kC273:Ct 273:=⟨_,QK,@px⟩
theorem wd(h p je kind value)(dg:List (List cm))(ml mj j9 oZ oY)(hp:ay.ok h p je)(Bs:SlC (Rp.sl cm.rp) h ml mj dg)(hwho:SlC vB h oZ oY j9)(hsm:smP p)(hsz0:∀y∈dg,y.length<=2000000)(hsw:j9.length<=2000000)(hk:dM h):Ret prog 182 [.agg (ay.cells p je).toArray,I kind,I value,.slice ml dg.length mj,.slice oZ j9.length oY] h (.tuple #[.bool ((eK p kind value dg j9).1),I ((eK p kind value dg j9).2)]):=by
 refine sT func182 U ntmps182 U λX hM hX hF=>?_
 have hs0:=@rfl _ (eK p kind value dg j9)
 refine sr (iA (λb1=>qO 6 U (eS 0 ty61 U U U (dP call129 (w6 _ _ _ hp ob hk) U (qO 7 U (cQ hs0 U (λc1 hs1=>?_) (λc1 hs2=>?_)))))))
 .refine qT 6 U ?_
  have hs3:eK p kind value dg j9=(false,(dy p)):=hs1
  exact nretP [.bool false,I (dy p)] (hs3▸U)
 refine qT 8 U (nH 6 [21,22,23,24,25,26,27] 21 27 (decide ((p.dM.length:Int)<=kind)) U (λc2 hk1=>?_) (λe=>?_))
 .exact qL 6 [0] U (hk1 _ U)
 refine cN (nH 3 [28,29,30,31] 28 31 (decide (value<0)) U (λc3 hk2=>?_) (λe=>?_))
 .exact cN (qO 2 U (hk2 _ U))
 refine cN (nH 3 [32,33,34,35] 32 35 (decide (1099511627776<value)) U (λc4 hk3=>?_) (λe=>?_))
 .exact cN (qO 2 U (hk3 _ U))
 refine an (cQ hs2 U (λc5 hs4=>?_) (λc5 hs5=>?_))
 .refine qT 5 U ?_
  have hs6:eK p kind value dg j9=(false,1):=hs4
  exact nretP [.bool false,I 1] (hs6▸U)
 refine qK 6 [0] U (dP call271 (Fb _ _ _ _ (p.aB.length:Int) Bs ob) U (qO 3 U (cQ hs5 U (λc6 hs7=>?_) (λc6 hs8=>?_))))
 .refine qT 5 U ?_
  have hs9:eK p kind value dg j9=(false,210):=hs7
  exact nretP [.bool false,I 210] (hs9▸U)
 refine qT 3 U (dP call272 (w8 _ _ _ _ hwho) U (qO 3 U (cQ hs8 U (λc7 hs10=>?_) (λc7 hs11=>?_))))
 .refine qT 5 U ?_
  have hs12:eK p kind value dg j9=(false,1):=hs10
  exact nretP [.bool false,I 1] (hs12▸U)
 refine qT 7 U (aM (ja (cells:=[I value,.slice ml dg.length mj,.slice oZ j9.length oY]) (places:=[(0,1),(1,1),(2,1)]) underlying292 zc292 kr kr (qL 3 [0] U ?_)))
 have ho1:0<=(kind:Int)/\(kind:Int)<((p.cZ).length:Int):=(by have hq:=Ch (by simpa using c1);simp only[decide_eq_true_eq,decide_eq_false_iff_not,Bool.and_eq_true,Bool.or_eq_true,Bool.not_eq_true',Bool.not_eq_false',Bool.and_eq_false_iff,Bool.or_eq_false_iff,beq_iff_eq,beq_eq_false_iff_ne,bne_iff_ne,bne_eq_false_iff_eq,vA,xA,jB,List.length_drop]at c5;omega)
 refine aM (E0 Hu ty65 hp.cZ.1 ho1 (eH ho1) U U U (λ_ _ _ e=>e) (λq1 r1 A1 ok1=>qL 1 [] U (II (j:=3) ty59 A1 U U (dP QK (px _ _ _ _ _ (show bh.ok h (bh.mk value dg j9) (my.mk ml mj oZ oY)from⟨Bs,hwho⟩) ok1.ao (by have hq:=Ch (by simpa using c1);have hr:=Si (by simpa using c6);show OkX (dg.length:Int) _;rw[hr];exact hq.2.2 _ (Jw (nm ho1))) (Ky (by simpa using c7)) hsw) U (qO 3 U ?_)))))
 have hs13:eK p kind value dg j9=((cS (bh.mk value dg j9) ((nthI p.cZ kind).ao)),0):=hs11
 exact nretP [.bool (cS (bh.mk value dg j9) ((nthI p.cZ kind).ao)),I 0] (hs13▸U)
instance kC182:Ct 182:=⟨_,call182,@wd⟩
theorem xy(h c rB p je j9 oZ oY)(hc:bI.ok h c rB)(hp:ay.ok h p je)(hwho:SlC vB h oZ oY j9)(hsm:smR c.Register)(hco:iI c)(hsp:smP p)(hofl:p.aB.length<=32)(hsw:j9.length<=2000000)(hk:dM h):Ret prog 109 [.agg (bI.cells c rB).toArray,.agg (ay.cells p je).toArray,.slice oZ j9.length oY] h (.bool (cT c p j9)):=by
 refine sVv func109 ntmps109 ?_
 generalize hz:(cT c p j9)=z
 have hsq:=hsm;unfold smR at hsq
 have q4:=λ(i:Int)(a:0<=i/\i<32)=>(show lP ((iY c.Register.da i c.at_ c.ah).2)=.ok ()from by rw[Gs ((iQ _).1 hco.chk).1 a hco.time hco.know];rfl)
 have q5:=λ(i:Int)=>kK (xg c.Register.da i c.at_ c.ah) hsm.2.1
 have hcq:=hco;cases hcq
 have q0:=@Gs
 have q1:=@xg
 have HA:=lM [2,3,4,15] 16 (.mJ (λw=>(∀y∈w.1,y.length<=2000000)) (.mG 7 (Rp.sl cm.rp) 241 .mE)) (λs1 i w=>(cT.L1 c (cT.K1 c p j9)) s1 i w.1)
 exact W
theorem Ds(h mode permits rm rl)(hpermits:SlC Yy h rm rl permits):Ret prog 285 [I mode,.slice rm permits.length rl] h (I (fN mode permits)):=by
 refine sT func285 U ntmps285 U λX hM hX hF=>?_
 have hs0:=@rfl _ (fN mode permits)
 refine qT 7 U (aM (cW call180 (vk h) U (λv1 h1 hle1 hp1=>?_)))
 obtain⟨rk1,rfl,mo1⟩:=hp1
 refine cN ?_
 obtain⟨o1,hb1,hm1⟩:=mo1
 refine aM (wR (k:=mode) NA (ga nz) hb1 hm1 (fG zv237) (show VFn _ (.nilFunc) Value.nilFunc from U) U U (λv2 hv1=>?_))
 obtain rfl:=hv1
 refine qO 11 U (cQ hs0 U (λc1 hs1=>?_) (λc1 hs2=>?_))
 .exact sr (an (nretP [I 270] (ci hs1)))
 refine qK 8 [] U (cQ hs2 U (λc2 hs4=>?_) (λc2 hs5=>?_))
 .have c2p:=of_decide_eq_true c2
  exact sr (an (nretP [I 1] (ci hs4)))
 have c2p:=of_decide_eq_false c2
 exact iL (qT 4 U (nretP [I 0] (ci hs5)))
instance kC285:Ct 285:=⟨_,call285,@Ds⟩
theorem xi(h s qy pZ)(f:(Bool->Bool))(f_v)(hs:SlC Yy h qy pZ s)(hf:∀(h':HF)(fh:Bool),jL h h'->ra prog f_v [.bool fh] h' [] (.bool (f fh))):Ret prog 354 [.slice qy s.length pZ,f_v] h (I (eN s f)):=by
 refine sVv func354 ntmps354 ?_
 generalize hz:(eN s f)=z
 have HA:=h0 [0,1,7] 8 (λs1 i=>(eN.L1 f (eN.K1)) s1 i)
 exact W
instance kC354:Ct 354:=⟨_,call354,@xi⟩
theorem Ah(h l fm fj)(ok:(Bool->Bool))(ok_v)(hl:SlC Yy h fm fj l)(hok:∀(h':HF)(fh:Bool),jL h h'->ra prog ok_v [.bool fh] h' [] (.bool (ok fh))):Ret prog 286 [.slice fm l.length fj,ok_v] h (I (iv l ok)):=by
 refine sVv func286 ntmps286 ?_
 generalize hz:(iv l ok)=z
 exact W
instance kC286:Ct 286:=⟨_,call286,@Ah⟩
theorem AC(h Nt)  : Ret prog 287 [.bool Nt] h (.bool (mg Nt)):=by
 refine sVv func287 ntmps287 ?_
 generalize hz:(mg Nt)=z
 exact W
instance kC287:Ct 287:=⟨_,call287,@AC⟩
theorem AB(h Nt)  : Ret prog 288 [.bool Nt] h (.bool (na Nt)):=by
 refine sVv func288 ntmps288 ?_
 generalize hz:(na Nt)=z
 exact W
instance kC288:Ct 288:=⟨_,call288,@AB⟩
theorem CT(h mode permits rm rl)(hpermits:SlC Yy h rm rl permits)(hsz0:permits.length<=2000000):jv prog 185 [I mode,.slice rm permits.length rl] h (λv h'=>∃(rb0:Option Addr)(rc0:Nat),v=.tuple #[.slice rb0 ((bB mode permits).1).length rc0,.bool ((bB mode permits).2.1),I ((bB mode permits).2.2)]/\SlC vB h' rb0 rc0 ((bB mode permits).1)):=by
 refine sVv func185 ntmps185 ?_
 generalize hz:(bB mode permits)=z
 have HA:=hG [5,55] 56 4 vB 3 (λs1 i w=>(bB.L1 (bB.K1 permits)) s1 i w)
 have HB:=hG [5,55] 56 4 vB 3 (λs2 i w=>(bB.L2 (bB.K2 permits)) s2 i w)
 have HC:=hG [5,55] 56 4 vB 3 (λs3 i w=>(bB.L3 (bB.K3)) s3 i w)
 exact W
instance kC185:Ct 185:=⟨_,call185,@CT⟩
theorem vm(h mode permits rm rl)(hpermits:SlC Yy h rm rl permits)(hsz0:permits.length<=2000000):Ret prog 112 [I mode,.slice rm permits.length rl] h (.tuple #[.bool ((fK mode permits).1),I ((fK mode permits).2)]):=by
 refine sVv func112 ntmps112 ?_
 generalize hz:(fK mode permits)=z
 exact W
theorem EW{α : Type}{xs:List α}{i:Nat}{y:α}(h:xs[i]? = some y):xs.take (i+1)=xs.take i++[y]:=by
  rw[List.take_add_one,h];rfl
theorem De(h c rB bv s0 b0)(hc:bI.ok h c rB)(hsm:smR c.Register)(hco:iI c)(hat:c.aP.At<=c.at_)(hk:dM h):
  oX prog 38 (kB [.agg (bI.cells c rB).toArray,Q bv]) h [(bv,verO s0 b0 none 0 0 none 0 0)]
   (λr h' B=>∃vb vc wb wc G,r=.returned (.bool (gl c))/\B=(bv,verO s0 b0 vb (askJ c).1.length vc wb (askAll c).length wc)::G/\SlC vB h' vb vc (askJ c).1/\cI vB 3 h' (askAll c) wb wc G):=by
 have hJ:Jdg c.Register.Versions (askJ c):=yO hco.vers hco.good.at_ hco.time hco.know hat
 have hJl:(askJ c).1.length<=256:=kK (Dr _ _ _ _) hco.vers.len
 have hpx:∀y∈(askJ c).1,exOk (fI c y):=λy hy=>MG (hJ.mem y hy)
 have hpk:∀y∈(askJ c).1,RX (askP c y):=λy hy=>si hco hsm (V2 (hpx y hy))
 refine dL func38 U ntmps38 U λX hM hX=>?_
 refine sr (iA (λb2=>an ?_))
 refine sr (lj VQ U (lj V1 U (pJ 0 ty26 U U U (lj M8 U (lj VY U (pJ 0 ty3 U U U (lj VP U (pJ 0 ty3 U U U (lj VO U (pJ 0 ty3 U U U (aM (cW call108 (vl h c.Register.Versions _ _ c.aP.At c.at_ c.ah hc.Register.Versions hsm.vers hk) U (λv1 h1 hle1 hp1=>?_)))))))))))))
 obtain⟨vb,vc,rfl,slv⟩:=hp1
 refine qO 11 U (aM (yl CG (kh h1 _) (qp hJ.err) U (qO 9 U (F0 fa U (qO 2 U ?_)))))
 refine lp2 (γ:=List Bool×Option Addr×Nat×LH×List Int×Option Addr×Nat×LH×HF) (x0:=(askJ c).1) (askJ c).1
  (λi g=>[(1,Q bv),(2,Q b2),(5,.slice vb (askJ c).1.length vc),(6,I (askJ c).2.1),(8,.slice g.2.1 g.1.length g.2.2.1),(31,.slice vb (askJ c).1.length vc),(32,I (((askJ c).1.length:Nat):Int)),(33,I (i:Int))])
  (λg=>g.2.2.2.2.2.2.2.2)
  (λg=>[(b2,O (bI.cells c rB) 91),(bv,verO s0 b0 none 0 0 g.2.2.2.2.2.1 g.2.2.2.2.1.length g.2.2.2.2.2.2.1)]++(g.2.2.2.1++g.2.2.2.2.2.2.2.1))
  (λi g=>g.1=((askJ c).1.take i).map (askAns c)/\g.2.2.2.2.1=((askJ c).1.take i).flatMap (askWho c)/\cI Yy 4 g.2.2.2.2.2.2.2.2 g.1 g.2.1 g.2.2.1 g.2.2.2.1/\cI vB 3 g.2.2.2.2.2.2.2.2 g.2.2.2.2.1 g.2.2.2.2.2.1 g.2.2.2.2.2.2.1 g.2.2.2.2.2.2.2.1/\h1.le g.2.2.2.2.2.2.2.2/\g.1.length<=i/\g.2.2.2.2.1.length<=i*2000000)
  (λs i _=>(askJ c).1.take i++s) ([],none,0,[],[],none,0,[],h1) ob rfl ⟨rfl,rfl,cI.nil,cI.nil,HF.le_refl _,jH _,jH _⟩ ?_ ?_
 .rintro i ⟨az,ab,ac,Ga,ws,wb,wc,Gw,hh⟩ hil hx0 ⟨ha,hw,gA,gW,dN,la,lw⟩ e
  dsimp only at ha hw gA gW dN la lw hx0
  rw[List.append_nil]at hx0
  rw[←hx0]at ha hw
  subst ha hw
  obtain⟨ws,hws⟩:∃ws,ws=(askJ c).1.flatMap (askWho c):=⟨_,rfl⟩
  have hall:askAll c=slices_Compact_int (sortI ws):=by rw[hws];rfl
  rw[←hws]at gW lw
  obtain⟨az,has⟩:∃az,az=(askJ c).1.map (askAns c):=⟨_,rfl⟩
  rw[←has]at gA la
  show TT _ _ _ _ _ (upds e [(1,Q bv),(2,Q b2),(5,.slice vb (askJ c).1.length vc),(6,I (askJ c).2.1),(8,.slice ab ((askJ c).1.map (askAns c)).length ac),(31,.slice vb (askJ c).1.length vc),(32,I (((askJ c).1.length:Nat):Int)),(33,I (i:Int))]) _ _ hh ([(b2,O (bI.cells c rB) 91),(bv,verO s0 b0 none 0 0 wb ((askJ c).1.flatMap (askWho c)).length wc)]++(Ga++Gw))
  rw[←hws,←has]
  refine qT 3 U (aM (em (fU U) (lj Ey U (pJ 1 ty31 U U U (aM (ni ([(b2,O (bI.cells c rB) 91),(bv,verO s0 b0 none 0 0 wb ws.length wc)]++Ga) Gw [] QQ (mW hh ws wb wc Gw gW ob) (by simp only[zC,List.cons_append,List.nil_append,List.append_nil]) U (λG2 g2=>bM ?_)))))))
  refine qT 6 U (aM (em (fU U) (lj Ey U (pJ 1 ty31 U U U (aM (ni (v:=.slice wb (slices_Compact_int (sortI ws)).length wc) ([(b2,O (bI.cells c rB) 91),(bv,verO s0 b0 none 0 0 wb ws.length wc)]++Ga) G2 [] call111 (oU hh (sortI ws) wb wc G2 g2) U (by simp only[iE];rfl) (λG3 g3=>?_)))))))
  refine aM (em (fU U) (lj VZ U (dD 1 ty31 U U U U U U (aM (em (fU U) (lj Ey U (dD 1 ty31 U U U U U U (bM (dV (L':=[(b2,O (bI.cells c rB) 91),(bv,verO s0 b0 vb (askJ c).1.length vc wb (slices_Compact_int (sortI ws)).length wc)]++(Ga++G3)) (by rw[List.append_nil,zC];rfl) ?_)))))))))
  have fin:∀(hz:HF)(r:Bool),hh.le hz->r=gl c->∀(e:Env),e 4=.bool r->∀k,TT prog (bodyFrame 38) 88 (.code .ret::k) (kU prog X (λr h' B=>∃vb vc wb wc G,r=.returned (.bool (gl c))/\B=(bv,verO s0 b0 vb (askJ c).1.length vc wb (askAll c).length wc)::G/\SlC vB h' vb vc (askJ c).1/\cI vB 3 h' (askAll c) wb wc G)) e [] X hz ([(b2,O (bI.cells c rB) 91),(bv,verO s0 b0 vb (askJ c).1.length vc wb (slices_Compact_int (sortI ws)).length wc)]++(Ga++G3)):=by
   intro hz r hlz hr e he k
   subst hr
   refine mp (v:=.bool (gl c)) (h2:=hz) (B:=(bv,verO s0 b0 vb (askJ c).1.length vc wb (slices_Compact_int (sortI ws)).length wc)::G3) func38 (λa ha w _=>by rw[←he];exact res1 U a ha w) (λw hw=>hw.sub (.cons _ (.cons_cons _ (List.sublist_append_right _ _)))) ⟨vb,vc,wb,wc,G3,U,?_,slv.mono kM (kA dN hlz),?_⟩
   .rw[hall]
   rw[hall];exact g3.mono kM hlz
  refine qT 6 U ?_
  refine ld U (λc1=>?_) (λc1=>?_)
  .exact sr (an (fin hh false lf (by unfold gl;rw[show((askJ c).2.1==0)=true from c1];rfl) _ U _))
  have hm:=hJ.mode2 (by simpa using c1)
  have hal:az.length<=256:=by rw[has,List.length_map];exact hJl
  refine qT 5 U (aM (DN ([(b2,O (bI.cells c rB) 91),(bv,verO s0 b0 vb (askJ c).1.length vc wb (slices_Compact_int (sortI ws)).length wc)]) Ga G3 (v:=.tuple #[.bool ((fK (askJ c).2.1 az).1),I ((fK (askJ c).2.1 az).2)]) call112 Rp.sV gA U (λhz lz sl=>vm hz (askJ c).2.1 az ab ac sl ob) U ?_))
  exact cN (qO 8 U (aM (yl CG (kh hh _) (qp (Ka hm hal)) U (qO 6 U (fin hh _ lf (by unfold gl;rw[show((askJ c).2.1==0)=false from c1,cond_false,←has]) _ U _)))))
 rintro i ⟨az,ab,ac,Ga,ws,wb,wc,Gw,hh⟩ y r hd hlt hget hltp hbd hx0 ⟨ha,hw,gA,gW,dN,la,lw⟩ hx ag e
 dsimp only at ha hw gA gW dN la lw
 have hy:y∈(askJ c).1:=List.mem_of_getElem? hget
 have hcc:=hc.mono (kA hle1 dN)
 show TT _ _ _ _ _ (upds e [(1,Q bv),(2,Q b2),(5,.slice vb (askJ c).1.length vc),(6,I (askJ c).2.1),(8,.slice ab az.length ac),(31,.slice vb (askJ c).1.length vc),(32,I (((askJ c).1.length:Nat):Int)),(33,I (i:Int))]) _ _ hh ([(b2,O (bI.cells c rB) 91),(bv,verO s0 b0 none 0 0 wb ws.length wc)]++(Ga++Gw))
 refine sr (tO hlt U (qO 8 U (aM (vy (enc:=λy=>[I y]) (λ_ _ _ e=>e) fa ty3 (slv.mono kM dN).1 (nthZ hget) (kz hget) U U U (λq1 A1=>fV ty3 A1 U (an ?_))))))
 refine sr (eS 0 ty91 U U U (cN (aM (Sc call91 (sB hh c rB y hcc) (hpx y hy) U (λv3 h3 hle3 hp3=>?_)))))
 obtain⟨pr,rfl,okp⟩:=hp3
 refine cD zc61 (λb11=>ct 0 ty61 U U U U U U (bM ?_))
 refine sr (eS 1 ty91 U U U (eS 0 ty61 U U U (aM (cW call90 (sC h3 c rB (askP c y) pr (hcc.mono hle3) okp hsm hco (hpk y hy).rules) U (λv4 h4 hle4 hp4=>?_)))))
 obtain⟨ub,uc,rfl,slu⟩:=hp4
 refine qO 5 U (eS 1 ty91 U U U (eS 0 ty61 U U U (cN (dP (v:=.bool (askAns c y)) call109 (xy h4 c rB (askP c y) pr (askWho c y) ub uc (hcc.mono (kA hle3 hle4)) (okp.mono hle4) slu hsm hco (hpk y hy).sm (hpk y hy).off (IF hsm _) (hk.mono (kA hle1 (kA dN (kA hle3 hle4))))) U ?_))))
 have hl4:hh.le h4:=kA hle3 hle4
 have hwl:=IF hsm (askP c y)
 refine aM (bW (cells:=[.bool (askAns c y)]) Hs ty4 zc4 U U kr (λb13=>?_))
 refine aM (fd Rp.FB ([(b13,O [.bool (askAns c y)] 4),(b11,O (ay.cells (askP c y) pr) 61),(b2,O (bI.cells c rB) 91),(bv,verO s0 b0 none 0 0 wb ws.length wc)]) Gw (λG=>[(b13,O [.bool (askAns c y)] 4),(b11,O (ay.cells (askP c y) pr) 61),(b2,O (bI.cells c rB) 91),(bv,verO s0 b0 none 0 0 wb ws.length wc)]++(Gw++G)) U (λ_=>U) Hs ty4 zc4 U bytes4 (gA.mono Rp.sV hl4) U U (iM (ys:=[askAns c y]) 0 U ⟨[.bool (askAns c y)],[],U,U,U,U⟩) lo lo (λab2 ac2 Ga2 gA2=>an ?_))
 refine qT 3 U (aM (em (fU U) (lj Ey U (pJ 3 ty31 U U U (cN (aM (fd Rp.j4 ([(b13,O [.bool (askAns c y)] 4),(b11,O (ay.cells (askP c y) pr) 61),(b2,O (bI.cells c rB) 91),(bv,verO s0 b0 none 0 0 wb ws.length wc)]) Ga2 (λG=>[(b13,O [.bool (askAns c y)] 4),(b11,O (ay.cells (askP c y) pr) 61),(b2,O (bI.cells c rB) 91),(bv,verO s0 b0 none 0 0 wb ws.length wc)]++(Ga2++G)) U (λ_=>U) fa ty3 zc3 U bytes3 (gW.mono kM hl4) U U (lH slu.1) (by show(_+(askWho c y).length)*_<=_;unfold askWho;omega) (by show _+(askWho c y).length<=_;unfold askWho;omega) (λwb2 wc2 Gw2 gW2=>?_))))))))
 refine aM (em (fU U) (lj Ey U (dD 3 ty31 U U U U U U (bM (dE (L':=[(b2,O (bI.cells c rB) 91),(bv,verO s0 b0 none 0 0 wb2 (ws++askWho c y).length wc2)]++(Ga2++Gw2)) js (qT 2 U (gE (v':=I (((i+1:Nat)):Int)) U (mO ob) (qO 2 U ?_))))))))
 refine ag (az++[askAns c y],ab2,ac2,Ga2,ws++askWho c y,wb2,wc2,Gw2,h4) (by rw[EW hget,zC];exact hx0) ⟨?_,?_,gA2,gW2,kA dN hl4,?_,?_⟩
 .show az++[askAns c y]=_;rw[EW hget,ha,List.map_append];rfl
 .show ws++askWho c y=_;rw[EW hget,hw,List.flatMap_append];simp
 .show(az++[askAns c y]).length<=i+1;rw[vA];simp only[xA,jB];omega
 show(ws++askWho c y).length<=(i+1)*2000000;rw[vA];unfold askWho;omega
theorem P9(h c rB q bv s0 b0)(hc:bI.ok h c rB)(aq:At h q (bI.cells c rB))(hsm:smR c.Register)(hco:iI c)(hat:c.aP.At<=c.at_)(hk:dM h):
    oX prog 37 (kB [.pointer (some q),Q bv]) h [(bv,verO s0 b0 none 0 0 none 0 0)]
      (λr h' B=>∃vb vc wb wc G,r=.returned (.bool (!(gl c)))/\B=(bv,verO s0 b0 vb (askJ c).1.length vc wb (askAll c).length wc)::G/\SlC vB h' vb vc (askJ c).1/\cI vB 3 h' (askAll c) wb wc G):=by
  refine dL func37 U ntmps37 U λX hM hX=>?_
  refine qT 6 rfl (gV ty91 aq rfl rfl (aM (HZ (A:=[(bv,verO s0 b0 none 0 0 none 0 0)]) (Fr:=[]) call38 rfl (De h c rB bv s0 b0 hc hsm hco hat hk) rfl (λv h2 B dN hR=>?_) (λch h2 B dN hR=>by obtain⟨_,_,_,_,_,hr,_⟩:=hR;cases hr))))
  obtain⟨vb,vc,wb,wc,G,hr,rfl,s1,g1⟩:=hR
  cases hr
  exact qf U (an (mp (v:=.bool (!(gl c))) (h2:=h2) (B:=(bv,verO s0 b0 vb (askJ c).1.length vc wb (askAll c).length wc)::G) func37 (λa ha w hw=>o9 (rs:=[.tmp 2]) (vs:=[.bool (!(gl c))]) U rd a ha w hw) (λw hw=>by simpa using hw) ⟨vb,vc,wb,wc,G,U,U,s1,g1⟩))
theorem P8(h r tB qr u qm ql qu)(c:bI)(rB:ss)(qc)(at_ ah:Int)(qa qk bv s0 b0 vb vn vc wb wn wc)(hr:vL h r tB)(ar:At h qr (qD r tB))(hu:SlC Use.rp h qm ql u)(au:At h qu [.slice qm u.length ql])(ac:At h qc (bI.cells c rB))(aa:At h qa [I at_])(ak:At h qk [I ah])(hsm:smR r)(he:(judgeRoom c r u at_ ah).2.2=0):
  oX prog 39 (kB [.pointer (some qr),.pointer (some qu),.pointer (some qc),.pointer (some qa),.pointer (some qk),Q bv]) h [(bv,verO s0 b0 vb vn vc wb wn wc)]
   (λx h' B=>x=.returned (.bool (!(judgeRoom c r u at_ ah).2.1))/\h'=h/\B=[(bv,verO s0 (bif !(judgeRoom c r u at_ ah).2.1 then(judgeRoom c r u at_ ah).1 else b0) vb vn vc wb wn wc)]):=by
 refine dL func39 U ntmps39 U λX hM hX=>?_
 refine qT 6 U (lj RF U (nv (j:=3) ty25 ar U U (fV ty32 au U (lj M8 U (lj VX U (nv (j:=9) ty3 ac U U (lj M8 U (lj VW U (nv (j:=10) ty3 ac U U (fV ty3 aa U (fV ty3 ak U (dP (v:=.tuple #[I (judgeRoom c r u at_ ah).1,.bool (judgeRoom c r u at_ ah).2.1,I (judgeRoom c r u at_ ah).2.2]) call31 (uj h r.df _ _ u qm ql c.aP.Kind c.aP.Value at_ ah hr.df hu hsm.2.2.2.2.1) U (qO 11 U (aM (yl CG (kh h _) (qp he) U (qO 7 U ?_))))))))))))))))
 refine ld U (λc1=>?_) (λc1=>?_)
 .exact bS (cN (lj RE U (dD 0 ty3 U U U U U U (qO 7 U (mp (v:=.bool (!(judgeRoom c r u at_ ah).2.1)) (h2:=h) (B:=[(bv,verO s0 (judgeRoom c r u at_ ah).1 vb vn vc wb wn wc)]) func39 (λa ha w hw=>o9 (rs:=[.tmp 6]) (vs:=[.bool (!(judgeRoom c r u at_ ah).2.1)]) U rd a ha w hw) (λw hw=>hw) ⟨U,U,by rw[show(!(judgeRoom c r u at_ ah).2.1)=true from c1];rfl⟩)))))
 exact iL (qT 6 U (mp (v:=.bool (!(judgeRoom c r u at_ ah).2.1)) (h2:=h) (B:=[(bv,verO s0 b0 vb vn vc wb wn wc)]) func39 (λa ha w hw=>o9 (rs:=[.tmp 6]) (vs:=[.bool (!(judgeRoom c r u at_ ah).2.1)]) U rd a ha w hw) (λw hw=>hw) ⟨U,U,by rw[show(!(judgeRoom c r u at_ ah).2.1)=false from c1];rfl⟩))
theorem IL{e:Int}{ee:Int}(h:lP e=.error ee):(e != 0)=true/\ee=e:=by
  unfold lP at h
  cases hc:e != 0 with
  |true=>rw[hc]at h;cases h;exact⟨rfl,rfl⟩
  |false=>rw[hc]at h;cases h
theorem C8{e:Int}{u:Unit}(h:lP e=.ok u):e=0:=by
  unfold lP at h
  cases hc:e != 0 with
  |true=>rw[hc]at h;cases h
  |false=>simpa using hc
theorem Bj(h co eP signed bK bJ u qm ql aP cL ah)(m5:vL h co eP)(gL:SlC vB h bK bJ signed)(hu:SlC Use.rp h qm ql u)(hsm:smR co)(hln:co.bV.length<20)(hk:dM h):
  jv prog 9 [.agg (qD co eP).toArray,.slice bK signed.length bJ,.slice qm u.length ql,I aP,I cL,I ah] h (λv h'=>∃rr0:qh,v=.tuple #[.agg (fw.cells (aZ co signed u aP cL ah).1 rr0).toArray,I ((aZ co signed u aP cL ah).2)]/\fw.ok h' (aZ co signed u aP cL ah).1 rr0):=by
 refine dL func9 U ntmps9 U λX hM hX=>?_
 refine sr (iA (λb6=>iA (λb7=>iA (λb8=>iA (λb10=>iA (λb11=>cD zc36 (λb12=>cD zc37 (λb13=>bM ?_))))))))
 refine sr (K0 U U (bM ?_))
 have fin:∀(hh:HF)(V:fw)(vb:Option Addr)(vc:Nat)(wb:Option Addr)(wc:Nat)(ee:Int)(B:LH)(e:Env),aZ co signed u aP cL ah=(V,ee)->SlC vB hh vb vc V.Versions->SlC vB hh wb wc V.Who->e 12=Q b12->e 13=Q b13->∀a:Act,envOf a=e->∀w,St X hh ([(b13,O [I ee] 37)]++((b12,verO V.State V.Budget vb V.Versions.length vc wb V.Who.length wc)::B)) w ->
   ∃v h2 B2,(results Tryz.f9 a.tmps).run prog w=.ok v w/\St X h2 B2 w/\(B2=[]/\∃v',Ending.returned v=.returned v'/\(λv h'=>∃rr0:qh,v=.tuple #[.agg (fw.cells (aZ co signed u aP cL ah).1 rr0).toArray,I ((aZ co signed u aP cL ah).2)]/\fw.ok h' (aZ co signed u aP cL ah).1 rr0) v' h2):=by
  intro hh V vb vc wb wc ee B e he h1 h2 h12 h13 a ha w hw
  refine⟨_,hh,[],o9 (rs:=[.cell 12 36,.cell 13 37]) (vs:=[.agg (fw.cells V ⟨vb,vc,wb,wc⟩).toArray,I ee]) U ⟨⟨1,b12,_,36,(0,0),U,h12,.inl ⟨ty36,U⟩⟩,⟨0,b13,[I ee],37,(0,0),U,h13,.inr ⟨_,ty37,U⟩⟩,trivial⟩ a ha w hw,hw.sub (List.nil_sublist _),U,_,U,⟨vb,vc,wb,wc⟩,?_,?_⟩
  .rw[he];rfl
  rw[he];exact⟨h1,h2⟩
 have pan:∀(hh:HF)(e0 ee:Int)(B:LH)(e:Env),aZ co signed u aP cL ah=(⟨0,0,[],[]⟩,ee)->e 12=Q b12->e 13=Q b13 ->
   TP prog (bodyFrame 9) 69 [{ v:=errV ee,recovered:=false }] (kU prog X (λx h' B=>B=[]/\∃v,x=.returned v/\(λv h'=>∃rr0:qh,v=.tuple #[.agg (fw.cells (aZ co signed u aP cL ah).1 rr0).toArray,I ((aZ co signed u aP cL ah).2)]/\fw.ok h' (aZ co signed u aP cL ah).1 rr0) v h')) e [{ target:=.fn (.func 28) #[],args:=kB [Q b13] }] X hh ((b13,O [I e0] 37)::(b12,verO 0 0 none 0 0 none 0 0)::B):=by
  intro hh e0 ee B e he h12 h13
  refine DA (c:=bodyOf Tryz.f28) (cap:=[Q b13]) (A:=[(b13,O [I e0] 37)]) (R':=λh'' B=>h''=hh/\B=[(b13,O [I ee] 37)]) func9 Hx U NC U NB (λX' _=>zw hh b13 e0 ee X') U ?_
  rintro h'' B2 _ ⟨rfl,rfl⟩ a ha w hw
  exact fin _ ⟨0,0,[],[]⟩ none 0 none 0 ee B e he qH qH h12 h13 a ha w hw
 refine sr (eS 6 ty30 U U U (dP (v:=I (dq co)) call11 (Bk h co eP m5 hsm hk) U ?_))
 refine uZ CG (kh h (dq co)).toXH U (λv_ v h1 hx1 hle1 hp1=>?_) (λee h1 hx1 hle1=>?_)
 rotate_left
 .obtain⟨e1,rfl⟩:=IL hx1
  exact pan h1 _ _ _ _ (by unfold aZ;rw[e1];rfl) U U
 obtain⟨rfl,rfl⟩:=hp1
 have hc0:=C8 hx1
 refine qO 3 U (lj V0 U (pJ 6 ty27 U U U (pJ 5 ty31 U U U (aM (cW call30 (pC h1 co.bV _ _ signed bK bJ 0 m5.bV gL hln) U (λv2 h2 hle2 hp2=>?_))))))
 obtain⟨fb,fc,rfl,_⟩:=hp2
 refine qO 3 U (dD 0 ty37 U U U U U U (qO 3 U (pJ 0 ty37 U U U ?_)))
 refine uZ CG (kh h2 (bp co.bV signed 0).2).toXH U (λv_ v h3 hx3 hle3 hp3=>?_) (λee h3 hx3 hle3=>?_)
 rotate_left
 .obtain⟨e1,rfl⟩:=IL hx3
  exact pan h3 _ _ _ _ (by unfold aZ;rw[hc0,e1];rfl) U U
 obtain⟨rfl,rfl⟩:=hp3
 have hf0:=C8 hx3
 refine qO 3 U (lj RF U (pJ 6 ty25 U U U (pJ 4 ty32 U U U (dP (v:=.tuple #[I (aL co.df u 0 0 0 0).1,.bool (aL co.df u 0 0 0 0).2.1,I (aL co.df u 0 0 0 0).2.2]) call31 (uj h3 co.df _ _ u qm ql 0 0 0 0 (m5.mono hle2).df (hu.mono Use.aK hle2) hsm.2.2.2.2.1) U (qO 4 U (dD 0 ty37 U U U U U U (qO 3 U (pJ 0 ty37 U U U ?_))))))))
 refine uZ CG (kh h3 (aL co.df u 0 0 0 0).2.2).toXH U (λv_ v h4 hx4 hle4 hp4=>?_) (λee h4 hx4 hle4=>?_)
 rotate_left
 .obtain⟨e1,rfl⟩:=IL hx4
  exact pan h4 _ _ _ _ (by unfold aZ;rw[hc0,hf0,e1];rfl) U U
 obtain⟨rfl,rfl⟩:=hp4
 have hb0:=C8 hx4
 refine qO 3 U (eS 6 ty30 U U U (cN (pJ 3 ty3 U U U (pJ 2 ty3 U U U ?_))))
 refine uZ call32 (CK h4 co eP aP cL ah (m5.mono hle2)) U (λc v h5 hx5 hle5 hp5=>?_) (λee h5 hx5 hle5=>?_)
 rotate_left
 .exact pan h5 _ _ _ _ (by unfold aZ;rw[hc0,hf0,hb0,hx5];rfl) U U
 obtain⟨cr,rfl,okc⟩:=hp5
 have hj:aZ co signed u aP cL ah=(judgeC c co signed u cL ah,0):=by unfold aZ;rw[hc0,hf0,hb0,hx5];rfl
 obtain⟨hce,hco,_,_⟩:=Hg hc0 hx5
 have hreg:c.Register=co:=by rw[hce]
 have hca:c.at_=cL:=by rw[hce]
 have hck:c.ah=ah:=by rw[hce]
 have hsc:smR c.Register:=by rw[hreg];exact hsm
 have hlc:c.Register.bV.length<20:=by rw[hreg];exact hln
 have hsg:cj c.Register.bV signed=true:=by rw[hreg];exact MX hf0
 have hroom:(judgeRoom c co u cL ah).2.2=0:=H8 hb0 hco.kind hco.good.value (hca▸hco.time) (hck▸hco.know)
 rw[hb0]
 refine cD zc91 (λb14=>ct 0 ty91 U U U U U U (bM ?_))
 refine sr (lj RE U (dD 2 ty3 U U U U U U (bM (gM 0 U hM (λg1 l1 f14=>gM 2 U hM (λg2 l2 f11=>gM 2 U hM (λg3 l3 f10=>gM 2 U hM (λg4 l4 f8=>gM 2 U hM (λg5 l5 f7=>gM 2 U hM (λg6 l6 f6=>?_))))))))))
 have a14:=(fJ f14).mono (kA l2 (kA l3 (kA l4 (kA l5 l6))))
 have a11:=(fJ f11).mono (kA l3 (kA l4 (kA l5 l6)))
 have a10:=(fJ f10).mono (kA l4 (kA l5 l6))
 have a8:=(fJ f8).mono (kA l5 l6)
 have a7:=(fJ f7).mono l6
 have a6:=fJ f6
 have l56:h5.le g6:=kA l1 (kA l2 (kA l3 (kA l4 (kA l5 l6))))
 have l06:h1.le g6:=kA hle2 (kA hle5 l56)
 have okg:=okc.mono l56
 have okr:=m5.mono l06
 have hsg6:=gL.mono kM l06
 have hu6:=hu.mono Use.aK l06
 have hk6:=hk.mono l06
 clear f14 f11 f10 f8 f7 f6
 show TT _ _ _ _ _ _ _ _ g6 [(b13,O [I 0] 37),(b12,verO 0 (-1) none 0 0 none 0 0)]
 refine qT 3 U (aM (jy U U (aM (ja (cells:=[I 1,.func (.func 33) #[] #[Q b14,Q b7]]) (places:=[(0,1),(1,1)]) S6 zc94 kr kr (aM (jy U U (aM (ja (cells:=[I 2,.func (.func 35) #[] #[Q b14,Q b7]]) (places:=[(0,1),(1,1)]) S6 zc94 kr kr (aM (jy U U (aM (ja (cells:=[I 3,.func (.func 37) #[] #[Q b14,Q b12]]) (places:=[(0,1),(1,1)]) S6 zc94 kr kr (aM (jy U U (aM (ja (cells:=[I 4,.func (.func 39) #[] #[Q b6,Q b8,Q b14,Q b10,Q b11,Q b12]]) (places:=[(0,1),(1,1)]) S6 zc94 kr kr (aM (bW (cells:=[I 1,.func (.func 33) #[] #[Q b14,Q b7],I 2,.func (.func 35) #[] #[Q b14,Q b7],I 3,.func (.func 37) #[] #[Q b14,Q b12],I 4,.func (.func 39) #[] #[Q b6,Q b8,Q b14,Q b10,Q b11,Q b12]]) Ny ty94 zc94 U U kr (λb15=>F0 Ny U (qO 2 U ?_))))))))))))))))))))
 have ret:∀(hh:HF)(V:fw)(vb:Option Addr)(vc:Nat)(wb:Option Addr)(wc:Nat)(B:LH)(e:Env)(k:List Item),judgeC c co signed u cL ah=V->SlC vB hh vb vc V.Versions->SlC vB hh wb wc V.Who->e 12=Q b12->e 13=Q b13 ->
   TT prog (bodyFrame 9) 69 (.code .ret::k) (kU prog X (λx h' B=>B=[]/\∃v,x=.returned v/\(λv h'=>∃rr0:qh,v=.tuple #[.agg (fw.cells (aZ co signed u aP cL ah).1 rr0).toArray,I ((aZ co signed u aP cL ah).2)]/\fw.ok h' (aZ co signed u aP cL ah).1 rr0) v h')) e [{ target:=.fn (.func 28) #[],args:=kB [Q b13] }] X hh ((b13,O [I 0] 37)::(b12,verO V.State V.Budget vb V.Versions.length vc wb V.Who.length wc)::B):=by
  intro hh V vb vc wb wc B e k hv h1 h2 h12 h13
  refine NJ (c:=bodyOf Tryz.f28) (cap:=[Q b13]) (A:=[(b13,O [I 0] 37)]) (R':=λh'' B=>h''=hh/\B=[(b13,O [I 0] 37)]) func9 Hx U NC U NB (λX' _=>JS hh b13 0 X') U ?_
  rintro h'' B2 _ ⟨rfl,rfl⟩ a ha w hw
  exact fin _ V vb vc wb wc 0 B e (by rw[hj,hv]) h1 h2 h12 h13 a ha w hw
 refine nf (HH (sr (gE (v':=.bool true) U U (qO 8 U (aM (em (ID (i:=0) Ny ty94 U U ob) (eS 0 ty94 U U U (cD zc94 (λc0=>ct 0 ty94 U U U U U U (bM ?_))))))))))
 refine sr (lj Hn U (pJ 0 ty33 U U U (aM (kj (v:=.bool (fq c signed)) [] (List.nil_sublist _) (jd (cap:=[Q b14,Q b7]) call33 (Fl g6 c cr ⟨b14,0,none⟩ signed bK bJ ⟨b7,0,none⟩ okg a14 hsg6 a7 hsc hco hlc hsg)) U U (bM ?_)))))
 refine ld U (λk1=>?_) (λk1=>?_)
 .exact sr (lj Ho U (pJ 0 ty3 U U U (lj Ez U (dD 3 ty3 U U U U U U (qO 3 U (eS 3 ty36 U U U (ct 3 ty36 U U U U U U (dD 2 ty37 U U U U U U (bM (dE (.cons _ (.cons _ (List.Sublist.refl _))) (ret g6 ⟨1,-1,[],[]⟩ none 0 none 0 [] _ _ (by unfold judgeC;rw[show fq c signed=true from k1];rfl) qH qH U U)))))))))))
 replace k1:fq c signed=false:=k1
 have hat:c.aP.At<=c.at_:=Fz k1
 refine qT 3 U (gE (v':=I 1) U U (qO 2 U (Dz (dE (.cons _ (List.Sublist.refl _)) (sr (gE (v':=.bool true) U U (qO 8 U (aM (em (ID (i:=1) Ny ty94 U U ob) (eS 0 ty94 U U U (cD zc94 (λc1=>ct 0 ty94 U U U U U U (bM ?_)))))))))))))
 refine sr (lj Hn U (pJ 0 ty33 U U U (aM (kj (v:=.bool (io c signed)) [] (List.nil_sublist _) (jd (cap:=[Q b14,Q b7]) call35 (Fk g6 c cr ⟨b14,0,none⟩ signed bK bJ ⟨b7,0,none⟩ okg a14 hsg6 a7 hsc hco hlc hsg)) U U (bM ?_)))))
 refine ld U (λk2=>?_) (λk2=>?_)
 .exact sr (lj Ho U (pJ 0 ty3 U U U (lj Ez U (dD 3 ty3 U U U U U U (qO 3 U (eS 3 ty36 U U U (ct 3 ty36 U U U U U U (dD 2 ty37 U U U U U U (bM (dE (.cons _ (.cons _ (List.Sublist.refl _))) (ret g6 ⟨2,-1,[],[]⟩ none 0 none 0 [] _ _ (by unfold judgeC;rw[k1,show io c signed=true from k2];rfl) qH qH U U)))))))))))
 replace k2:io c signed=false:=k2
 refine qT 3 U (gE (v':=I 2) U U (qO 2 U (Dz (dE (.cons _ (List.Sublist.refl _)) (sr (gE (v':=.bool true) U U (qO 8 U (aM (em (ID (i:=2) Ny ty94 U U ob) (eS 0 ty94 U U U (cD zc94 (λc2=>ct 0 ty94 U U U U U U (bM ?_)))))))))))))
 refine sr (lj Hn rfl (pJ 0 ty33 rfl rfl rfl (aM (DM [(c2,O [I 3,.func (.func 37) #[] #[Q b14,Q b12]] 94),(b15,O [I 1,.func (.func 33) #[] #[Q b14,Q b7],I 2,.func (.func 35) #[] #[Q b14,Q b7],I 3,.func (.func 37) #[] #[Q b14,Q b12],I 4,.func (.func 39) #[] #[Q b6,Q b8,Q b14,Q b10,Q b11,Q b12]] 94),(b13,O [I 0] 37)] [(b12,verO 0 (-1) none 0 0 none 0 0)] rfl (nI (args:=[]) (cap:=[Q b14,Q b12]) call37 (P9 g6 c cr ⟨b14,0,none⟩ b12 0 (-1) okg a14 hsc hco hat hk6)) rfl rfl (λv7 h7 B7 l7 hR=>?_) (λch h7 B7 l7 hR=>by obtain⟨_,_,_,_,_,hr,_⟩:=hR;cases hr)))))
 obtain⟨vb,vc,wb,wc,G,hr,rfl,sv7,gw⟩:=hR
 cases hr
 refine bM (ib kM ([(c2,O [I 3,.func (.func 37) #[] #[Q b14,Q b12]] 94),(b15,O [I 1,.func (.func 33) #[] #[Q b14,Q b7],I 2,.func (.func 35) #[] #[Q b14,Q b7],I 3,.func (.func 37) #[] #[Q b14,Q b12],I 4,.func (.func 39) #[] #[Q b6,Q b8,Q b14,Q b10,Q b11,Q b12]] 94),(b13,O [I 0] 37)]++[(b12,verO 0 (-1) vb (askJ c).1.length vc wb (askAll c).length wc)]) G [] (by rw[List.append_nil];rfl) hM gw (λh8 l8 sw_z=>?_))
 have sv:=sv7.mono kM l8
 have l68:g6.le h8:=kA l7 l8
 refine dV (L':=[(c2,O [I 3,.func (.func 37) #[] #[Q b14,Q b12]] 94),(b15,O [I 1,.func (.func 33) #[] #[Q b14,Q b7],I 2,.func (.func 35) #[] #[Q b14,Q b7],I 3,.func (.func 37) #[] #[Q b14,Q b12],I 4,.func (.func 39) #[] #[Q b6,Q b8,Q b14,Q b10,Q b11,Q b12]] 94),(b13,O [I 0] 37),(b12,verO 0 (-1) vb (askJ c).1.length vc wb (askAll c).length wc)]) (by rw[List.append_nil];rfl) ?_
 refine ld U (λk3=>?_) (λk3=>?_)
 .exact sr (lj Ho U (pJ 0 ty3 U U U (lj Ez U (dD 3 ty3 U U U U U U (qO 3 U (eS 3 ty36 U U U (ct 3 ty36 U U U U U U (dD 2 ty37 U U U U U U (bM (dE (.cons _ (.cons _ (List.Sublist.refl _))) (ret h8 ⟨3,-1,(askJ c).1,askAll c⟩ vb vc wb wc [] _ _ (by unfold judgeC;rw[k1,k2,show(!(gl c))=true from k3];rfl) sv sw_z U U)))))))))))
 replace k3:(!(gl c))=false:=k3
 refine qT 3 U (gE (v':=I 3) U U (qO 2 U (Dz (dE (.cons _ (List.Sublist.refl _)) (sr (gE (v':=.bool true) U U (qO 8 U (aM (em (ID (i:=3) Ny ty94 U U ob) (eS 0 ty94 U U U (cD zc94 (λc3=>ct 0 ty94 U U U U U U (bM ?_)))))))))))))
 refine sr (lj Hn U (pJ 0 ty33 U U U (aM (DM [(c3,O [I 4,.func (.func 39) #[] #[Q b6,Q b8,Q b14,Q b10,Q b11,Q b12]] 94),(b15,O [I 1,.func (.func 33) #[] #[Q b14,Q b7],I 2,.func (.func 35) #[] #[Q b14,Q b7],I 3,.func (.func 37) #[] #[Q b14,Q b12],I 4,.func (.func 39) #[] #[Q b6,Q b8,Q b14,Q b10,Q b11,Q b12]] 94),(b13,O [I 0] 37)] [(b12,verO 0 (-1) vb (askJ c).1.length vc wb (askAll c).length wc)] U (nI (args:=[]) (cap:=[Q b6,Q b8,Q b14,Q b10,Q b11,Q b12]) call39 (P8 h8 co eP ⟨b6,0,none⟩ u qm ql ⟨b8,0,none⟩ c cr ⟨b14,0,none⟩ cL ah ⟨b10,0,none⟩ ⟨b11,0,none⟩ b12 0 (-1) vb (askJ c).1.length vc wb (askAll c).length wc (okr.mono l68) (a6.mono l68) (hu6.mono Use.aK l68) (a8.mono l68) (a14.mono l68) (a10.mono l68) (a11.mono l68) hsm hroom)) U U (λv9 h9 B9 l9 hR=>?_) (λch h9 B9 l9 hR=>by cases hR.1)))))
 obtain⟨hr,rfl,rfl⟩:=hR
 cases hr
 refine bM (ld U (λk4=>?_) (λk4=>?_))
 .exact dV (L':=[(c3,O [I 4,.func (.func 39) #[] #[Q b6,Q b8,Q b14,Q b10,Q b11,Q b12]] 94),(b15,O [I 1,.func (.func 33) #[] #[Q b14,Q b7],I 2,.func (.func 35) #[] #[Q b14,Q b7],I 3,.func (.func 37) #[] #[Q b14,Q b12],I 4,.func (.func 39) #[] #[Q b6,Q b8,Q b14,Q b10,Q b11,Q b12]] 94),(b13,O [I 0] 37),(b12,verO 0 (judgeRoom c co u cL ah).1 vb (askJ c).1.length vc wb (askAll c).length wc)]) (by rw[show(!(judgeRoom c co u cL ah).2.1)=true from k4];rfl) (sr (lj Ho U (pJ 0 ty3 U U U (lj Ez U (dD 3 ty3 U U U U U U (qO 3 U (eS 3 ty36 U U U (ct 3 ty36 U U U U U U (dD 2 ty37 U U U U U U (bM (dE (.cons _ (.cons _ (List.Sublist.refl _))) (ret h9 ⟨4,(judgeRoom c co u cL ah).1,(askJ c).1,askAll c⟩ vb vc wb wc [] _ _ (by unfold judgeC;rw[k1,k2,k3,show(!(judgeRoom c co u cL ah).2.1)=true from k4];rfl) sv sw_z U U))))))))))))
 replace k4:(!(judgeRoom c co u cL ah).2.1)=false:=k4
 exact dV (L':=[(c3,O [I 4,.func (.func 39) #[] #[Q b6,Q b8,Q b14,Q b10,Q b11,Q b12]] 94),(b15,O [I 1,.func (.func 33) #[] #[Q b14,Q b7],I 2,.func (.func 35) #[] #[Q b14,Q b7],I 3,.func (.func 37) #[] #[Q b14,Q b12],I 4,.func (.func 39) #[] #[Q b6,Q b8,Q b14,Q b10,Q b11,Q b12]] 94),(b13,O [I 0] 37),(b12,verO 0 (-1) vb (askJ c).1.length vc wb (askAll c).length wc)]) (by rw[k4];rfl) (qT 3 U (gE (v':=I 4) U U (qO 2 U (Dz (dE (.cons _ (List.Sublist.refl _)) (sr (gE (v':=.bool false) U U (qO 6 U (lj Ez U (dD 2 ty3 U U U U U U (qO 3 U (eS 2 ty36 U U U (ct 2 ty36 U U U U U U (dD 1 ty37 U U U U U U (bM (dE (.cons _ (List.Sublist.refl _)) (ret h9 ⟨0,-1,(askJ c).1,askAll c⟩ vb vc wb wc [] _ _ (by unfold judgeC;rw[k1,k2,k3,k4];rfl) sv sw_z U U)))))))))))))))))
instance kR93:Cl 93:=⟨call93⟩
theorem Gu(rec:ao->Int->Int)(h)(x:ao)(gU dY)(hrec:∀(h:HF)(qx:ao)(mt:dJ)(qlimit:Int)(hqx:ao.ok h qx mt)(_:qx.dep<x.dep),Ret prog 93 [.agg (ao.cells qx mt).toArray,I qlimit] h (I (rec qx qlimit)))(hx:ao.ok h x gU):Ret prog 93 [.agg (ao.cells x gU).toArray,I dY] h (I (hO.F rec x dY)):=by
 refine sVv func93 ntmps93 ?_
 generalize hz:(hO.F rec x dY)=z
 have HA:=h1 [1,2] 6 (λw=>[(5,I w)]) (λs1 i w=>(hO.L1 rec dY (hO.K1)) s1 w)
 exact W
theorem wV:∀(m:Nat)(h:HF)(x:ao)(gU:dJ)(dY:Int)(_:x.dep<=m)(hx:ao.ok h x gU),Ret prog 93 [.agg (ao.cells x gU).toArray,I dY] h (I (hO.go m x dY))
 |0,h,x,gU,dY,hd,hx=>absurd hd (Nat.not_le.2 (ao.np _))
 |m+1,h,x,gU,dY,hd,hx=>Gu (hO.go m) h x gU dY (λqh_ qx mt qlimit qhx qd=>wV m qh_ qx mt qlimit ob qhx) hx
theorem Id(h x gU dY)(hx:ao.ok h x gU):Ret prog 93 [.agg (ao.cells x gU).toArray,I dY] h (I (hO x dY)):=wV _ h x gU dY (xE _) hx
instance kC93:Ct 93:=⟨_,call93,@Id⟩
theorem AM(h l fm fj)(hl:SlC aD.rp h fm fj l):Ret prog 27 [.slice fm l.length fj] h (.bool (eD l)):=by
 refine sVv func27 ntmps27 ?_
 generalize hz:(eD l)=z
 have HA:=h0 [0] 3 (λs1 i=>(eD.L1 (eD.K1)) s1)
 have HB:=λ{rz1}=>h0 [0,3,4] 5 (λs3 i=>(eD.L3 ((eD.L1 (eD.K1) rz1))) s3)
 exact W
instance kC27:Ct 27:=⟨_,call27,@AM⟩
theorem My(h co eP)(m5:vL h co eP):Ret prog 8 [.agg (qD co eP).toArray] h (.bool (lJ co)):=by
 refine sVv func8 ntmps8 ?_
 generalize hz:(lJ co)=z
 have HA:=h0 [1] 3 (λs1 i=>(lJ.L1 (lJ.K1)) s1)
 exact W
instance kC8:Ct 8:=⟨_,call8,@My⟩
theorem Ks(h gj)  : Ret prog 216 [I gj] h (.bool (vY gj)):=by
 refine sVv func216 ntmps216 ?_
 generalize hz:(vY gj)=z
 exact W
instance kC216:Ct 216:=⟨_,call216,@Ks⟩
theorem GK(h gj)  : Ret prog 217 [I gj] h (.bool (uJ gj)):=by
 refine sVv func217 ntmps217 ?_
 generalize hz:(uJ gj)=z
 exact W
instance kC217:Ct 217:=⟨_,call217,@GK⟩
theorem GJ(h gj)  : Ret prog 218 [I gj] h (.bool (uI gj)):=by
 refine sVv func218 ntmps218 ?_
 generalize hz:(uI gj)=z
 exact W
instance kC218:Ct 218:=⟨_,call218,@GJ⟩
theorem IA(h)(x:aQ)  : Ret prog 133 [.agg (aQ.cells x).toArray] h (.bool (nV x)):=by
 refine sVv func133 ntmps133 ?_
 generalize hz:(nV x)=z
 exact W
instance kC133:Ct 133:=⟨_,call133,@IA⟩
theorem IB(h l fm fj)(hl:SlC aQ.rp h fm fj l):Ret prog 52 [.slice fm l.length fj] h (I (jo l)):=by
 refine sVv func52 ntmps52 ?_
 generalize hz:(jo l)=z
 have HA:=h0 [0] 3 (λs1 i=>(jo.L1 l (jo.K1)) s1 i)
 exact W
instance kC52:Ct 52:=⟨_,call52,@IB⟩
theorem GH(h gj low high)  : Ret prog 219 [I gj,I low,I high] h (.bool (lV gj low high)):=by
 refine sVv func219 ntmps219 ?_
 generalize hz:(lV gj low high)=z
 exact W
instance kC219:Ct 219:=⟨_,call219,@GH⟩
theorem Kr(h gj)  : Ret prog 220 [I gj] h (.bool (vX gj)):=by
 refine sVv func220 ntmps220 ?_
 generalize hz:(vX gj)=z
 exact W
instance kC220:Ct 220:=⟨_,call220,@Kr⟩
theorem GI(h gj)  : Ret prog 221 [I gj] h (.bool (rM gj)):=by
 refine sVv func221 ntmps221 ?_
 generalize hz:(rM gj)=z
 exact W
instance kC221:Ct 221:=⟨_,call221,@GI⟩
theorem Iy(h)(x:bj)  : Ret prog 134 [.agg (bj.cells x).toArray] h (.bool (nU x)):=by
 refine sVv func134 ntmps134 ?_
 generalize hz:(nU x)=z
 exact W
instance kC134:Ct 134:=⟨_,call134,@Iy⟩
theorem Iz(h l fm fj)(hl:SlC bj.rp h fm fj l):Ret prog 53 [.slice fm l.length fj] h (I (jm l)):=by
 refine sVv func53 ntmps53 ?_
 generalize hz:(jm l)=z
 have HA:=h0 [0] 3 (λs1 i=>(jm.L1 l (jm.K1)) s1 i)
 exact W
instance kC53:Ct 53:=⟨_,call53,@Iz⟩
theorem Ke(h t)  : Ret prog 222 [I t] h (.bool (vI t)):=by
 refine sVv func222 ntmps222 ?_
 generalize hz:(vI t)=z
 exact W
instance kC222:Ct 222:=⟨_,call222,@Ke⟩
theorem Ig(h gj)  : Ret prog 223 [I gj] h (.bool (tw gj)):=by
 refine sVv func223 ntmps223 ?_
 generalize hz:(tw gj)=z
 exact W
instance kC223:Ct 223:=⟨_,call223,@Ig⟩
theorem Gx(h gj)  : Ret prog 224 [I gj] h (.bool (uH gj)):=by
 refine sVv func224 ntmps224 ?_
 generalize hz:(uH gj)=z
 exact W
instance kC224:Ct 224:=⟨_,call224,@Gx⟩
theorem Ih(h)(x:aG)  : Ret prog 135 [.agg (aG.cells x).toArray] h (.bool (nQ x)):=by
 refine sVv func135 ntmps135 ?_
 generalize hz:(nQ x)=z
 exact W
instance kC135:Ct 135:=⟨_,call135,@Ih⟩
theorem Ii(h l fm fj)(hl:SlC aG.rp h fm fj l):Ret prog 54 [.slice fm l.length fj] h (I (jj l)):=by
 refine sVv func54 ntmps54 ?_
 generalize hz:(jj l)=z
 have HA:=h0 [0] 3 (λs1 i=>(jj.L1 l (jj.K1)) s1 i)
 exact W
instance kC54:Ct 54:=⟨_,call54,@Ii⟩
theorem GD(h gj least most)  : Ret prog 191 [I gj,I least,I most] h (.bool (j0 gj least most)):=by
 refine sVv func191 ntmps191 ?_
 generalize hz:(j0 gj least most)=z
 exact W
instance kC191:Ct 191:=⟨_,call191,@GD⟩
theorem GF(h gj)  : Ret prog 192 [I gj] h (.bool (lU gj)):=by
 refine sVv func192 ntmps192 ?_
 generalize hz:(lU gj)=z
 exact W
instance kC192:Ct 192:=⟨_,call192,@GF⟩
theorem Ir(h)(x:Budget)  : Ret prog 136 [.agg (Budget.cells x).toArray] h (.bool (nT x)):=by
 refine sVv func136 ntmps136 ?_
 generalize hz:(nT x)=z
 exact W
instance kC136:Ct 136:=⟨_,call136,@Ir⟩
theorem Is(h l fm fj)(hl:SlC Budget.rp h fm fj l):Ret prog 55 [.slice fm l.length fj] h (I (hY l)):=by
 refine sVv func55 ntmps55 ?_
 generalize hz:(hY l)=z
 have HA:=h0 [0] 3 (λs1 i=>(hY.L1 l (hY.K1)) s1 i)
 exact W
instance kC55:Ct 55:=⟨_,call55,@Is⟩
theorem Kh(h gj)  : Ret prog 137 [I gj] h (.bool (sN gj)):=by
 refine sVv func137 ntmps137 ?_
 generalize hz:(sN gj)=z
 exact W
instance kC137:Ct 137:=⟨_,call137,@Kh⟩
instance kR369:Cl 369:=⟨call369⟩
theorem GB(rec:ao->Int->Int)(h)(x:ao)(gU dY)(hrec:∀(h:HF)(qx:ao)(mt:dJ)(qlimit:Int)(hqx:ao.ok h qx mt)(_:qx.dep<x.dep),Ret prog 369 [.agg (ao.cells qx mt).toArray,I qlimit] h (I (rec qx qlimit)))(hx:ao.ok h x gU):Ret prog 369 [.agg (ao.cells x gU).toArray,I dY] h (I (dI.F rec x dY)):=by
 refine sVv func369 ntmps369 ?_
 generalize hz:(dI.F rec x dY)=z
 have HA:=h1 [1,2] 6 (λw=>[(5,I w)]) (λs1 i w=>(dI.L1 rec dY (dI.K1)) s1 w)
 exact W
theorem wY:∀(m:Nat)(h:HF)(x:ao)(gU:dJ)(dY:Int)(_:x.dep<=m)(hx:ao.ok h x gU),Ret prog 369 [.agg (ao.cells x gU).toArray,I dY] h (I (dI.go m x dY))
 |0,h,x,gU,dY,hd,hx=>absurd hd (Nat.not_le.2 (ao.np _))
 |m+1,h,x,gU,dY,hd,hx=>GB (dI.go m) h x gU dY (λqh_ qx mt qlimit qhx qd=>wY m qh_ qx mt qlimit ob qhx) hx
theorem Io(h x gU dY)(hx:ao.ok h x gU):Ret prog 369 [.agg (ao.cells x gU).toArray,I dY] h (I (dI x dY)):=wY _ h x gU dY (xE _) hx
instance kC369:Ct 369:=⟨_,call369,@Io⟩
instance kR370:Cl 370:=⟨call370⟩
theorem GC(rec:ao->Int)(h)(x:ao)(gU)(hrec:∀(h:HF)(qx:ao)(mt:dJ)(hqx:ao.ok h qx mt)(_:qx.dep<x.dep),Ret prog 370 [.agg (ao.cells qx mt).toArray] h (I (rec qx)))(hx:ao.ok h x gU):Ret prog 370 [.agg (ao.cells x gU).toArray] h (I (bF.F rec x)):=by
 refine sVv func370 ntmps370 ?_
 generalize hz:(bF.F rec x)=z
 have HA:=h1 [1] 4 (λw=>[(3,I w)]) (λs1 i w=>(bF.L1 rec (bF.K1)) s1 w)
 exact W
theorem w4:∀(m:Nat)(h:HF)(x:ao)(gU:dJ)(_:x.dep<=m)(hx:ao.ok h x gU),Ret prog 370 [.agg (ao.cells x gU).toArray] h (I (bF.go m x))
 |0,h,x,gU,hd,hx=>absurd hd (Nat.not_le.2 (ao.np _))
 |m+1,h,x,gU,hd,hx=>GC (bF.go m) h x gU (λqh_ qx mt qhx qd=>w4 m qh_ qx mt ob qhx) hx
theorem Ip(h x gU)(hx:ao.ok h x gU):Ret prog 370 [.agg (ao.cells x gU).toArray] h (I (bF x)):=w4 _ h x gU (xE _) hx
instance kC370:Ct 370:=⟨_,call370,@Ip⟩
theorem In(h x gU)(hx:ao.ok h x gU):Ret prog 312 [.agg (ao.cells x gU).toArray] h (.bool (lZ x)):=by
 refine sVv func312 ntmps312 ?_
 generalize hz:(lZ x)=z
 exact W
instance kC312:Ct 312:=⟨_,call312,@In⟩
theorem DS(h p je)(hp:ay.ok h p je):Ret prog 230 [.agg (ay.cells p je).toArray] h (.bool (fo p)):=by
 refine sVv func230 ntmps230 ?_
 generalize hz:(fo p)=z
 have HA:=h0 [1] 3 (λs1 i=>(fo.L1 (fo.K1)) s1)
 exact W
theorem GL(h c)  : Ret prog 399 [Y c] h (.bool (n9 c)):=by
 refine sVv func399 ntmps399 ?_
 generalize hz:(n9 c)=z
 exact W
instance kC399:Ct 399:=⟨_,call399,@GL⟩
theorem GM(h c)  : Ret prog 409 [Y c] h (.bool (uK c)):=by
 refine sVv func409 ntmps409 ?_
 generalize hz:(uK c)=z
 exact W
instance kC409:Ct 409:=⟨_,call409,@GM⟩
theorem Kt(h c)  : Ret prog 400 [Y c] h (.bool (vZ c)):=by
 refine sVv func400 ntmps400 ?_
 generalize hz:(vZ c)=z
 exact W
instance kC400:Ct 400:=⟨_,call400,@Kt⟩
theorem Ku(h s)  : Ret prog 371 [.string s] h (.bool (jz s)):=by
 refine sVv func371 ntmps371 ?_
 generalize hz:(jz s)=z
 have HA:=h0 [0] 3 (λs1 i=>((jz.L1 s (jz.K1)) s1 i))
 exact W
instance kC371:Ct 371:=⟨_,call371,@Ku⟩
theorem Kg(h s)  : Ret prog 372 [.string s] h (.bool (vU s)):=by
 refine sVv func372 ntmps372 ?_
 generalize hz:(vU s)=z
 exact W
instance kC372:Ct 372:=⟨_,call372,@Kg⟩
theorem Kj(h s)  : Ret prog 313 [.string s] h (.bool (pu s)):=by
 refine sVv func313 ntmps313 ?_
 generalize hz:(pu s)=z
 exact W
instance kC313:Ct 313:=⟨_,call313,@Kj⟩
theorem AO(h l fm fj s)(hl:SlC YL h fm fj l):Ret prog 317 [.slice fm l.length fj,.string s] h (I (fE l s)):=by
 refine sVv func317 ntmps317 ?_
 generalize hz:(fE l s)=z
 have HA:=h0 [0,1] 5 (λs1 i=>(fE.L1 s (fE.K1)) s1 i)
 exact W
instance kC317:Ct 317:=⟨_,call317,@AO⟩
theorem DT(h l fm fj)(hl:SlC YL h fm fj l):Ret prog 314 [.slice fm l.length fj] h (.bool (fp l)):=by
 refine sVv func314 ntmps314 ?_
 generalize hz:(fp l)=z
 have HA:=h0 [0] 3 (λs1 i=>(fp.L1 l (fp.K1)) s1 i)
 exact W
instance kC314:Ct 314:=⟨_,call314,@DT⟩
instance kR315:Cl 315:=⟨call315⟩
theorem Gz(rec:List ByteArray->ao->Bool)(h aE dT dS)(x:ao)(gU)(hrec:∀(h:HF)(qoffices:List ByteArray)(li:Option Addr)(lh:Nat)(qx:ao)(mt:dJ)(hqoffices:SlC YL h li lh qoffices)(hqx:ao.ok h qx mt)(_:qx.dep<x.dep),Ret prog 315 [.slice li qoffices.length lh,.agg (ao.cells qx mt).toArray] h (.bool (rec qoffices qx)))(gR:SlC YL h dT dS aE)(hx:ao.ok h x gU):Ret prog 315 [.slice dT aE.length dS,.agg (ao.cells x gU).toArray] h (.bool (bT.F rec aE x)):=by
 refine sVv func315 ntmps315 ?_
 generalize hz:(bT.F rec aE x)=z
 have HA:=h0 [0,3] 5 (λs1 i=>(bT.L1 rec aE (bT.K1)) s1)
 exact W
theorem wX:∀(m:Nat)(h:HF)(aE:List ByteArray)(dT:Option Addr)(dS:Nat)(x:ao)(gU:dJ)(_:x.dep<=m)(gR:SlC YL h dT dS aE)(hx:ao.ok h x gU),Ret prog 315 [.slice dT aE.length dS,.agg (ao.cells x gU).toArray] h (.bool (bT.go m aE x))
 |0,h,aE,dT,dS,x,gU,hd,gR,hx=>absurd hd (Nat.not_le.2 (ao.np _))
 |m+1,h,aE,dT,dS,x,gU,hd,gR,hx=>Gz (bT.go m) h aE dT dS x gU (λqh_ qoffices li lh qx mt qhoffices qhx qd=>wX m qh_ qoffices li lh qx mt ob qhoffices qhx) gR hx
theorem Im(h aE dT dS x gU)(gR:SlC YL h dT dS aE)(hx:ao.ok h x gU):Ret prog 315 [.slice dT aE.length dS,.agg (ao.cells x gU).toArray] h (.bool (bT aE x)):=wX _ h aE dT dS x gU (xE _) gR hx
instance kC315:Ct 315:=⟨_,call315,@Im⟩
theorem Il(h p je)(hp:ay.ok h p je):Ret prog 231 [.agg (ay.cells p je).toArray] h (.bool (iC p)):=by
 refine sVv func231 ntmps231 ?_
 generalize hz:(iC p)=z
 have HA:=h0 [1] 3 (λs1 i=>(iC.L1 p (iC.K1 p)) s1)
 exact W
instance kR316:Cl 316:=⟨call316⟩
theorem AN(rec:ao->Bool->Bool)(h)(x:ao)(gU upto)(hrec:∀(h:HF)(qx:ao)(mt:dJ)(qupto:Bool)(hqx:ao.ok h qx mt)(_:qx.dep<x.dep),Ret prog 316 [.agg (ao.cells qx mt).toArray,.bool qupto] h (.bool (rec qx qupto)))(hx:ao.ok h x gU):Ret prog 316 [.agg (ao.cells x gU).toArray,.bool upto] h (.bool (aV.F rec x upto)):=by
 refine sVv func316 ntmps316 ?_
 generalize hz:(aV.F rec x upto)=z
 have HA:=h0 [1,2] 5 (λs1 i=>(aV.L1 rec upto (aV.K1 x upto)) s1)
 exact W
theorem rL:∀(m:Nat)(h:HF)(x:ao)(gU:dJ)(upto:Bool)(_:x.dep<=m)(hx:ao.ok h x gU),Ret prog 316 [.agg (ao.cells x gU).toArray,.bool upto] h (.bool (aV.go m x upto))
 |0,h,x,gU,upto,hd,hx=>absurd hd (Nat.not_le.2 (ao.np _))
 |m+1,h,x,gU,upto,hd,hx=>AN (aV.go m) h x gU upto (λqh_ qx mt qupto qhx qd=>rL m qh_ qx mt qupto ob qhx) hx
theorem Cr(h x gU upto)(hx:ao.ok h x gU):Ret prog 316 [.agg (ao.cells x gU).toArray,.bool upto] h (.bool (aV x upto)):=rL _ h x gU upto (xE _) hx
instance kC316:Ct 316:=⟨_,call316,@Cr⟩
theorem GA(h p je)(hp:ay.ok h p je):Ret prog 232 [.agg (ay.cells p je).toArray] h (.bool (gv p)):=by
 refine sVv func232 ntmps232 ?_
 generalize hz:(gv p)=z
 have HA:=h0 [1] 3 (λs1 i=>(gv.L1 p (gv.K1 p)) s1 i)
 exact W
theorem MR{p:Prop}(h:p:=by
  let z6:Nat×Obj:=(b3,O [I x.Kind,I x.N,I (fE aE x.Name),.string x.Name,.slice rY nD.length rX] 59)
  let z15:Nat×Obj:=(b5,O [I ((rec aE y1).Kind),I ((rec aE y1).N),I ((rec aE y1).No),.string ((rec aE y1).Name),.slice rr4.pE ((rec aE y1).L.length) rr4.pF] 59)
  exact tn 10 U (fd ao.eF ([z15,z6,z1,z3]) ([]) (λG=>[z15,z6,z1,z3]++G) ap (λ_=>ap) uB ty59 zc59 U bytes59 (Bz.mono ao.aK hle4) U U (iM 0 U (cE (R:=ao.rp) (rec aE y1) U ⟨rr4,U,ok4⟩)) lo lo (λob2 oc2 G2 gr2=>⟨jn,qB [11] U (tn 12 U (lE 1 ty57 U U U U U U (⟨jn,dO kr (qT 3 U (oi i1 U (an (dE (L':=[(b3,O [I x.Kind,I x.N,I (fE aE x.Name),.string x.Name,.slice ob2 ((nD++[(rec aE y1)]).length) oc2] 59),z1,z3]++G2) js (ag1 ((nD++[(rec aE y1)]),ob2,oc2,G2,h4) hs5 ⟨gr2,lo,(hl1.t hle4)⟩)))))⟩)))⟩))):p:=h
theorem MQ{p:Prop}(h:p:=by
  let z10:Nat×Obj:=(b3,O [I x.Kind,I x.N,I 0,.string x.Name,.slice rV nC.length rU] 59)
  let z18:Nat×Obj:=(b9,O [I ((rec aE y2).Kind),I ((rec aE y2).N),I ((rec aE y2).No),.string ((rec aE y2).Name),.slice rr9.pE ((rec aE y2).L.length) rr9.pF] 59)
  exact tn 10 U (fd ao.eF ([z18,z10,z2,z4]) ([]) (λG=>[z18,z10,z2,z4]++G) ap (λ_=>ap) uB ty59 zc59 U bytes59 (Bv.mono ao.aK hle9) U U (iM 0 U (cE (R:=ao.rp) (rec aE y2) U ⟨rr9,U,ok9⟩)) lo lo (λob6 oc6 G6 gr6=>⟨jn,qB [11] U (tn 12 U (lE 1 ty57 U U U U U U (⟨jn,dO kr (qT 3 U (oi i2 U (an (dE (L':=[(b3,O [I x.Kind,I x.N,I 0,.string x.Name,.slice ob6 ((nC++[(rec aE y2)]).length) oc6] 59),z2,z4]++G6) js (ag2 ((nC++[(rec aE y2)]),ob6,oc6,G6,h9) hs8 ⟨gr6,lo,(hl2.t hle9)⟩)))))⟩)))⟩))):p:=h
theorem CZ(rec:List ByteArray->ao->ao)(h aE dT dS)(x:ao)(gU)(hrec:∀(h:HF)(qoffices:List ByteArray)(li:Option Addr)(lh:Nat)(qx:ao)(mt:dJ)(hqoffices:SlC YL h li lh qoffices)(hqx:ao.ok h qx mt)(hsz:qx.dep<=2000000)(_:qx.dep<x.dep),jv prog 233 [.slice li qoffices.length lh,.agg (ao.cells qx mt).toArray] h (λv h'=>∃(rr0:dJ),v=.agg (ao.cells (rec qoffices qx) rr0).toArray/\ao.ok h' (rec qoffices qx) rr0))(gR:SlC YL h dT dS aE)(hx:ao.ok h x gU)(hsz:x.dep<=2000000):jv prog 233 [.slice dT aE.length dS,.agg (ao.cells x gU).toArray] h (λv h'=>∃(rr0:dJ),v=.agg (ao.cells (aw.F rec aE x) rr0).toArray/\ao.ok h' (aw.F rec aE x) rr0):=by
 refine dL func233 U ntmps233 U λX hM hX=>?_
 have hs0:=@rfl _ (aw.F rec aE x)
 have hln:=ao.P4 x
 refine sr (iA (λb1=>cD zc59 (λb2=>qO 3 U (eS 1 ty59 U U U (cD zc59 (λb3=>ct 0 ty59 U U U U U U (qL 4 [] U (dD 0 ty3 U U U U U U (qL 8 [2] U (nH 4 [12,13,14,15,16] 12 16 (x.Kind==2) U (λc1 hk1=>?_) (λe=>?_)))))))))))
 .exact qL 4 [2] U (hk1 _ U)
 refine bM (cQ hs0 U (λc2 hs1=>?_) (λc2 hs2=>?_))
 .refine qK 4 [2] U (dP call317 (AO _ _ _ _ x.Name gR) U (qL 1 [] U (dD 0 ty3 U U U U U U (qL 4 [] U (dD 0 ty57 U U U U U U (qO 6 U ?_))))))
  let z1:Nat×Obj:=(b2,O [I 0,I 0,I 0,.string (⟨#[]⟩:ByteArray),zSN] 59)
  let z3:Nat×Obj:=(b1,O (ao.cells x gU) 59)
  refine lp2 x.L (λi w=>[(0,.slice dT aE.length dS),(3,Q b1),(4,Q b2),(5,Q b3),(6,I (i:Int))]) (λw=>w.2.2.2.2) (λw=>[(b3,O [I x.Kind,I x.N,I (fE aE x.Name),.string x.Name,.slice w.2.1 w.1.length w.2.2.1] 59),z1,z3]++(w.2.2.2.1)) (λi w=>cI ao.rp 59 w.2.2.2.2 w.1 w.2.1 w.2.2.1 w.2.2.2.1/\w.1.length<=0+i/\jL h w.2.2.2.2) (λs1 i w=>(aw.L1 rec aE (aw.K1 aE x)) s1 w.1) ([],none,0,[],h) hx.list.1.1 hs1 ⟨cI.nil,lo,lf⟩ ?_ ?_ ?_
  .rintro i1 ⟨nD,rY,rX,Ep,hh1⟩ m4 hs3 ⟨Bz,Jj,hl1⟩ e
   try dsimp only at Bz Jj hl1
   let z5:Nat×Obj:=(b3,O [I x.Kind,I x.N,I (fE aE x.Name),.string x.Name,.slice rY nD.length rX] 59)
   let z19:Nat×Obj:=(b2,O [I x.Kind,I x.N,I (fE aE x.Name),.string x.Name,.slice rY nD.length rX] 59)
   refine sr (eS 0 ty59 U U U (ct 1 ty59 U U U U U U (kX (L':=[z5,z19,z3]++(Ep)) U (bM (ib ao.aK ([z5,z19,z3]) Ep ([]) ap hM Bz (λh3 hle3 sl2=>?_))))))
   have hs4:aw.F rec aE x=(ao.mk x.Kind x.N (fE aE x.Name) x.Name nD):=hs3
   exact lD [.agg (kB [I x.Kind,I x.N,I (fE aE x.Name),.string x.Name,.slice rY nD.length rX])] func233 U ⟨⟨1,_,_,_,_,U,U,.inl ⟨ty59,U⟩⟩,trivial⟩ ⟨(dJ.mk rY rX),congrArg (λr:ao=>(.agg (ao.cells r (dJ.mk rY rX)).toArray:Value)) hs4.symm,(by rw[hs4];exact(show ao.ok h3 (ao.mk x.Kind x.N (fE aE x.Name) x.Name nD) (dJ.mk rY rX)from ao.ok.of sl2))⟩
  .rintro i1 ⟨nD,rY,rX,Ep,hh1⟩ y1 rz1 hd1 mN kl oD yD hs5 ⟨Bz,Jj,hl1⟩ hx1 ag1 e
   try dsimp only at Bz Jj hl1
   have hdy:=ao.lB (eM hd1)
   refine qK 7 [2] U (tO mN U (qO 5 U (fQ ([z1,z3]) mixed kr jn (λlA _=>qB [0,2,3] U (tf 4 U U (rj 1 ty57 U U U) (tm 5 U (sZ 6 lA jn uB ty59 (hx.list.mono ao.aK hl1).1 (nthZ kl) (kz kl) U U U U kr (λq2 cs2 A2 ln2 rr3=>?_))))))))
   obtain⟨r2,rfl,ok3⟩:=rr3
   refine tf 7 U U (λ_ _ hj=>uL ty59 (A2.mono hj.1) U U) ?_
   refine nq 1 8 kr U U ?_ ?_ 
   .refine em (wM ty57 U (qo (i:=0) U) U) (⟨jn,tn 8 U (cW Nv (hrec _ _ _ _ _ _ (gR.mono ZF hl1) ok3 ob (ao.lB (eM hd1))) U (λv2 h4 hle4 hp2=>?_))⟩)
    obtain⟨rr4,rfl,ok4⟩:=hp2
    refine⟨jl hle4,tu hle4 (tn 9 U (bW (cells:=[I ((rec aE y1).Kind),I ((rec aE y1).N),I ((rec aE y1).No),.string ((rec aE y1).Name),.slice rr4.pE ((rec aE y1).L.length) rr4.pF]) uB ty59 zc59 U U kr (λb5=>⟨jn,?_⟩)))⟩
    exact MR
   refine cW Nv (hrec _ _ _ _ _ _ (gR.mono ZF hl1) ok3 ob (ao.lB (eM hd1))) U (λv3 h4 hle4 hp3=>?_)
   obtain⟨rr4,rfl,ok4⟩:=hp3
   refine⟨jl hle4,tu hle4 ?_⟩
   refine nq 1 9 kr U U ?_ ?_ 
   .refine em (wM ty57 U (qo (i:=0) U) U) (⟨jn,tn 9 U (bW (cells:=[I ((rec aE y1).Kind),I ((rec aE y1).N),I ((rec aE y1).No),.string ((rec aE y1).Name),.slice rr4.pE ((rec aE y1).L.length) rr4.pF]) uB ty59 zc59 U U kr (λb5=>⟨jn,?_⟩))⟩)
    exact MR
   refine bW (cells:=[I ((rec aE y1).Kind),I ((rec aE y1).N),I ((rec aE y1).No),.string ((rec aE y1).Name),.slice rr4.pE ((rec aE y1).L.length) rr4.pF]) uB ty59 zc59 U U kr (λb5=>⟨jn,tn 1 U (em (wM ty57 U (qo (i:=1) U) U) (⟨jn,?_⟩))⟩)
   exact MR
  rintro i1 ⟨nD,rY,rX,Ep,hh1⟩ hd1 uQ hx e
  exact qK 7 [2] U (fO uQ U (qO 3 U (hx _ rd)))
 refine qK 4 [] U (dD 0 ty57 U U U U U U (qO 6 U ?_))
 let z2:Nat×Obj:=(b2,O [I 0,I 0,I 0,.string (⟨#[]⟩:ByteArray),zSN] 59)
 let z4:Nat×Obj:=(b1,O (ao.cells x gU) 59)
 refine lp2 x.L (λi w=>[(0,.slice dT aE.length dS),(3,Q b1),(4,Q b2),(5,Q b3),(6,I (i:Int))]) (λw=>w.2.2.2.2) (λw=>[(b3,O [I x.Kind,I x.N,I 0,.string x.Name,.slice w.2.1 w.1.length w.2.2.1] 59),z2,z4]++(w.2.2.2.1)) (λi w=>cI ao.rp 59 w.2.2.2.2 w.1 w.2.1 w.2.2.1 w.2.2.2.1/\w.1.length<=0+i/\jL h w.2.2.2.2) (λs2 i w=>(aw.L2 rec aE (aw.K2 x)) s2 w.1) ([],none,0,[],h) hx.list.1.1 hs2 ⟨cI.nil,lo,lf⟩ ?_ ?_ ?_
 .rintro i2 ⟨nC,rV,rU,Ek,hh2⟩ Ed hs6 ⟨Bv,Je,hl2⟩ e
  try dsimp only at Bv Je hl2
  let z9:Nat×Obj:=(b3,O [I x.Kind,I x.N,I 0,.string x.Name,.slice rV nC.length rU] 59)
  let z20:Nat×Obj:=(b2,O [I x.Kind,I x.N,I 0,.string x.Name,.slice rV nC.length rU] 59)
  refine sr (eS 0 ty59 U U U (ct 1 ty59 U U U U U U (kX (L':=[z9,z20,z4]++(Ek)) U (bM (ib ao.aK ([z9,z20,z4]) Ek ([]) ap hM Bv (λh8 hle8 sl4=>?_))))))
  have hs7:aw.F rec aE x=(ao.mk x.Kind x.N 0 x.Name nC):=hs6
  exact lD [.agg (kB [I x.Kind,I x.N,I 0,.string x.Name,.slice rV nC.length rU])] func233 U ⟨⟨1,_,_,_,_,U,U,.inl ⟨ty59,U⟩⟩,trivial⟩ ⟨(dJ.mk rV rU),congrArg (λr:ao=>(.agg (ao.cells r (dJ.mk rV rU)).toArray:Value)) hs7.symm,(by rw[hs7];exact(show ao.ok h8 (ao.mk x.Kind x.N 0 x.Name nC) (dJ.mk rV rU)from ao.ok.of sl4))⟩
 .rintro i2 ⟨nC,rV,rU,Ek,hh2⟩ y2 rz2 hd2 Ar uv I2 Qc hs8 ⟨Bv,Je,hl2⟩ hx2 ag2 e
  try dsimp only at Bv Je hl2
  have hdy:=ao.lB (eM hd2)
  refine qK 7 [2] U (tO Ar U (qO 5 U (fQ ([z2,z4]) mixed kr jn (λpc _=>qB [0,2,3] U (tf 4 U U (rj 1 ty57 U U U) (tm 5 U (sZ 6 pc jn uB ty59 (hx.list.mono ao.aK hl2).1 (nthZ uv) (kz uv) U U U U kr (λq4 cs4 A4 ln4 rr8=>?_))))))))
  obtain⟨r4,rfl,ok8⟩:=rr8
  refine tf 7 U U (λ_ _ hj=>uL ty59 (A4.mono hj.1) U U) ?_
  refine nq 1 8 kr U U ?_ ?_ 
  .refine em (wM ty57 U (qo (i:=0) U) U) (⟨jn,tn 8 U (cW Nv (hrec _ _ _ _ _ _ (gR.mono ZF hl2) ok8 ob (ao.lB (eM hd2))) U (λv5 h9 hle9 hp5=>?_))⟩)
   obtain⟨rr9,rfl,ok9⟩:=hp5
   refine⟨jl hle9,tu hle9 (tn 9 U (bW (cells:=[I ((rec aE y2).Kind),I ((rec aE y2).N),I ((rec aE y2).No),.string ((rec aE y2).Name),.slice rr9.pE ((rec aE y2).L.length) rr9.pF]) uB ty59 zc59 U U kr (λb9=>⟨jn,?_⟩)))⟩
   exact MQ
  refine cW Nv (hrec _ _ _ _ _ _ (gR.mono ZF hl2) ok8 ob (ao.lB (eM hd2))) U (λv6 h9 hle9 hp6=>?_)
  obtain⟨rr9,rfl,ok9⟩:=hp6
  refine⟨jl hle9,tu hle9 ?_⟩
  refine nq 1 9 kr U U ?_ ?_ 
  .refine em (wM ty57 U (qo (i:=0) U) U) (⟨jn,tn 9 U (bW (cells:=[I ((rec aE y2).Kind),I ((rec aE y2).N),I ((rec aE y2).No),.string ((rec aE y2).Name),.slice rr9.pE ((rec aE y2).L.length) rr9.pF]) uB ty59 zc59 U U kr (λb9=>⟨jn,?_⟩))⟩)
   exact MQ
  refine bW (cells:=[I ((rec aE y2).Kind),I ((rec aE y2).N),I ((rec aE y2).No),.string ((rec aE y2).Name),.slice rr9.pE ((rec aE y2).L.length) rr9.pF]) uB ty59 zc59 U U kr (λb9=>⟨jn,tn 1 U (em (wM ty57 U (qo (i:=1) U) U) (⟨jn,?_⟩))⟩)
  exact MQ
 rintro i2 ⟨nC,rV,rU,Ek,hh2⟩ hd2 Un hx e
 exact qK 7 [2] U (fO Un U (qO 3 U (hx _ rd)))
theorem tx:∀(m:Nat)(h:HF)(aE:List ByteArray)(dT:Option Addr)(dS:Nat)(x:ao)(gU:dJ)(_:x.dep<=m)(gR:SlC YL h dT dS aE)(hx:ao.ok h x gU)(hsz:x.dep<=2000000),jv prog 233 [.slice dT aE.length dS,.agg (ao.cells x gU).toArray] h (λv h'=>∃(rr0:dJ),v=.agg (ao.cells (aw.go m aE x) rr0).toArray/\ao.ok h' (aw.go m aE x) rr0)
 |0,h,aE,dT,dS,x,gU,hd,gR,hx,hsz=>absurd hd (Nat.not_le.2 (ao.np _))
 |m+1,h,aE,dT,dS,x,gU,hd,gR,hx,hsz=>CZ (aw.go m) h aE dT dS x gU (λqh_ qoffices li lh qx mt qhoffices qhx qhsz qd=>tx m qh_ qoffices li lh qx mt ob qhoffices qhx qhsz) gR hx hsz
theorem wW(h aE dT dS x gU)(gR:SlC YL h dT dS aE)(hx:ao.ok h x gU)(hsz:x.dep<=2000000):jv prog 233 [.slice dT aE.length dS,.agg (ao.cells x gU).toArray] h (λv h'=>∃(rr0:dJ),v=.agg (ao.cells (aw aE x) rr0).toArray/\ao.ok h' (aw aE x) rr0):=tx _ h aE dT dS x gU (xE _) gR hx hsz
theorem yn(h p je)(hp:ay.ok h p je)(hsm:smP p):jv prog 142 [.agg (ay.cells p je).toArray] h (λv h'=>∃(rr0:ir),v=.tuple #[.agg (ay.cells ((ef p).1) rr0).toArray,I ((ef p).2)]/\ay.ok h' ((ef p).1) rr0):=by
 refine dL QJ U ntmps142 U λX hM hX=>?_
 have hs0:=@rfl _ (ef p)
 have hsc:=hsm.change
 have hsr:=hsm.rules
 refine sr (iA (λb1=>cD zc61 (λb2=>qO 5 U (eS 1 ty61 U U U (dP call230 (DS _ _ _ hp) U (bM (cQ hs0 U (λc1 hs1=>?_) (λc1 hs2=>?_))))))))
 .refine sr (aM (ja (cells:=[.string (⟨#[]⟩:ByteArray),zSN,zSN,zSN,I 0,I 0,I 0,.string (⟨#[]⟩:ByteArray),zSN,I 0]) (places:=[(0,1),(1,1),(2,1),(3,1),(4,5),(9,1)]) QU zc61 kr kr (ct 0 ty61 U U U U U U (an ?_))))
  have hs3:ef p=((ay.mk (⟨#[]⟩:ByteArray) ([]) ([]) ([]) (ao.mk 0 0 0 (⟨#[]⟩:ByteArray) ([])) 0),2):=hs1
  exact lD [.agg (kB [.string (⟨#[]⟩:ByteArray),zSN,zSN,zSN,I 0,I 0,I 0,.string (⟨#[]⟩:ByteArray),zSN,I 0]),I 2] QJ U ⟨⟨0,_,_,_,_,U,U,.inl ⟨ty61,U⟩⟩,U,trivial⟩ ⟨(ir.mk none 0 none 0 none 0 (dJ.mk none 0)),congrArg (λr:(ay×Int)=>(.tuple #[.agg (ay.cells r.1 (ir.mk none 0 none 0 none 0 (dJ.mk none 0))).toArray,I r.2]:Value)) hs3.symm,(by rw[hs3];exact(show ay.ok h (ay.mk (⟨#[]⟩:ByteArray) ([]) ([]) ([]) (ao.mk 0 0 0 (⟨#[]⟩:ByteArray) ([])) 0) (ir.mk none 0 none 0 none 0 (dJ.mk none 0))from⟨qH,qH,qH,(show ao.ok h (ao.mk 0 0 0 (⟨#[]⟩:ByteArray) ([])) (dJ.mk none 0)from ao.ok.of qH)⟩))⟩
 refine qT 4 U (eS 1 ty61 U U U (dP call231 (Il _ _ _ hp) U (qO 2 U (cQ hs2 U (λc2 hs4=>?_) (λc2 hs5=>?_)))))
 .refine sr (aM (ja (cells:=[.string (⟨#[]⟩:ByteArray),zSN,zSN,zSN,I 0,I 0,I 0,.string (⟨#[]⟩:ByteArray),zSN,I 0]) (places:=[(0,1),(1,1),(2,1),(3,1),(4,5),(9,1)]) QU zc61 kr kr (ct 0 ty61 U U U U U U (an ?_))))
  have hs6:ef p=((ay.mk (⟨#[]⟩:ByteArray) ([]) ([]) ([]) (ao.mk 0 0 0 (⟨#[]⟩:ByteArray) ([])) 0),201):=hs4
  exact lD [.agg (kB [.string (⟨#[]⟩:ByteArray),zSN,zSN,zSN,I 0,I 0,I 0,.string (⟨#[]⟩:ByteArray),zSN,I 0]),I 201] QJ U ⟨⟨0,_,_,_,_,U,U,.inl ⟨ty61,U⟩⟩,U,trivial⟩ ⟨(ir.mk none 0 none 0 none 0 (dJ.mk none 0)),congrArg (λr:(ay×Int)=>(.tuple #[.agg (ay.cells r.1 (ir.mk none 0 none 0 none 0 (dJ.mk none 0))).toArray,I r.2]:Value)) hs6.symm,(by rw[hs6];exact(show ay.ok h (ay.mk (⟨#[]⟩:ByteArray) ([]) ([]) ([]) (ao.mk 0 0 0 (⟨#[]⟩:ByteArray) ([])) 0) (ir.mk none 0 none 0 none 0 (dJ.mk none 0))from⟨qH,qH,qH,(show ao.ok h (ao.mk 0 0 0 (⟨#[]⟩:ByteArray) ([])) (dJ.mk none 0)from ao.ok.of qH)⟩))⟩
 refine qT 4 U (eS 1 ty61 U U U (dP call232 (GA _ _ _ hp) U (qO 2 U (cQ hs5 U (λc3 hs7=>?_) (λc3 hs8=>?_)))))
 .refine sr (aM (ja (cells:=[.string (⟨#[]⟩:ByteArray),zSN,zSN,zSN,I 0,I 0,I 0,.string (⟨#[]⟩:ByteArray),zSN,I 0]) (places:=[(0,1),(1,1),(2,1),(3,1),(4,5),(9,1)]) QU zc61 kr kr (ct 0 ty61 U U U U U U (an ?_))))
  have hs9:ef p=((ay.mk (⟨#[]⟩:ByteArray) ([]) ([]) ([]) (ao.mk 0 0 0 (⟨#[]⟩:ByteArray) ([])) 0),200):=hs7
  exact lD [.agg (kB [.string (⟨#[]⟩:ByteArray),zSN,zSN,zSN,I 0,I 0,I 0,.string (⟨#[]⟩:ByteArray),zSN,I 0]),I 200] QJ U ⟨⟨0,_,_,_,_,U,U,.inl ⟨ty61,U⟩⟩,U,trivial⟩ ⟨(ir.mk none 0 none 0 none 0 (dJ.mk none 0)),congrArg (λr:(ay×Int)=>(.tuple #[.agg (ay.cells r.1 (ir.mk none 0 none 0 none 0 (dJ.mk none 0))).toArray,I r.2]:Value)) hs9.symm,(by rw[hs9];exact(show ay.ok h (ay.mk (⟨#[]⟩:ByteArray) ([]) ([]) ([]) (ao.mk 0 0 0 (⟨#[]⟩:ByteArray) ([])) 0) (ir.mk none 0 none 0 none 0 (dJ.mk none 0))from⟨qH,qH,qH,(show ao.ok h (ao.mk 0 0 0 (⟨#[]⟩:ByteArray) ([])) (dJ.mk none 0)from ao.ok.of qH)⟩))⟩
 refine qT 3 U (eS 1 ty61 U U U (cD zc61 (λb3=>ct 0 ty61 U U U U U U (qL 4 [] U (dD 0 ty56 U U U U U U (qO 6 U ?_))))))
 let z4:Nat×Obj:=(b2,O [.string (⟨#[]⟩:ByteArray),zSN,zSN,zSN,I 0,I 0,I 0,.string (⟨#[]⟩:ByteArray),zSN,I 0] 61)
 let z7:Nat×Obj:=(b1,O (ay.cells p je) 61)
 refine lp2 p.cZ (λi w=>[(1,Q b1),(2,Q b2),(4,Q b3),(5,I (i:Int))]) (λw=>w.2.2.2.2) (λw=>[(b3,O [.string p.Name,.slice je.j3 p.dM.length je.j1,.slice je.gI p.aB.length je.gH,.slice w.2.1 w.1.length w.2.2.1,I p.aS.Kind,I p.aS.N,I p.aS.No,.string p.aS.Name,.slice je.aS.pE p.aS.L.length je.aS.pF,I p.Mode] 61),z4,z7]++(w.2.2.2.1)) (λi w=>cI fg.rp 65 w.2.2.2.2 w.1 w.2.1 w.2.2.1 w.2.2.2.1/\w.1.length<=0+i/\jL h w.2.2.2.2) (λs1 i w=>(ef.L1 p (ef.K1 p)) s1 i w.1) ([],none,0,[],h) hp.cZ.1.1 hs8 ⟨cI.nil,lo,lf⟩ ?_ ?_ ?_
 .rintro i1 ⟨nE,sd,rZ,BB,hh1⟩ m4 hs10 ⟨BA,Jk,hl1⟩ e
  try dsimp only at BA Jk hl1
  refine qK 5 [2] U (eS 2 ty59 U U U (aM (cW Nv (wW _ _ _ _ _ _ (hp.aB.mono ZF hl1) (hp.aS.mono hl1) ob) U (λv3 h4 hle4 hp3=>?_))))
  obtain⟨rr4,rfl,ok4⟩:=hp3
  let z2:Nat×Obj:=(b3,O [.string p.Name,.slice je.j3 p.dM.length je.j1,.slice je.gI p.aB.length je.gH,.slice sd nE.length rZ,I ((aw p.aB p.aS).Kind),I ((aw p.aB p.aS).N),I ((aw p.aB p.aS).No),.string ((aw p.aB p.aS).Name),.slice rr4.pE ((aw p.aB p.aS).L.length) rr4.pF,I p.Mode] 61)
  let z3:Nat×Obj:=(b2,O [.string p.Name,.slice je.j3 p.dM.length je.j1,.slice je.gI p.aB.length je.gH,.slice sd nE.length rZ,I ((aw p.aB p.aS).Kind),I ((aw p.aB p.aS).N),I ((aw p.aB p.aS).No),.string ((aw p.aB p.aS).Name),.slice rr4.pE ((aw p.aB p.aS).L.length) rr4.pF,I p.Mode] 61)
  refine qL 1 [] U (dD 0 ty59 U U U U U U (qO 3 U (eS 0 ty61 U U U (ct 1 ty61 U U U U U U (kX (L':=[z2,z3,z7]++(BB)) U (an (ib fg.aK ([z2,z3,z7]) BB ([]) ap hM (BA.mono fg.aK hle4) (λh5 hle5 sl2=>?_))))))))
  have hs11:ef p=((ay.mk p.Name p.dM p.aB nE (ao.mk ((aw p.aB p.aS).Kind) ((aw p.aB p.aS).N) ((aw p.aB p.aS).No) ((aw p.aB p.aS).Name) ((aw p.aB p.aS).L)) p.Mode),0):=hs10
  exact lD [.agg (ay.cells (ay.mk p.Name p.dM p.aB nE (ao.mk ((aw p.aB p.aS).Kind) ((aw p.aB p.aS).N) ((aw p.aB p.aS).No) ((aw p.aB p.aS).Name) ((aw p.aB p.aS).L)) p.Mode) (ir.mk je.j3 je.j1 je.gI je.gH sd rZ (dJ.mk rr4.pE rr4.pF))).toArray,I 0] QJ U ⟨⟨1,_,_,_,_,U,U,.inl ⟨ty61,U⟩⟩,U,trivial⟩ ⟨(ir.mk je.j3 je.j1 je.gI je.gH sd rZ (dJ.mk rr4.pE rr4.pF)),congrArg (λr:(ay×Int)=>(.tuple #[.agg (ay.cells r.1 (ir.mk je.j3 je.j1 je.gI je.gH sd rZ (dJ.mk rr4.pE rr4.pF))).toArray,I r.2]:Value)) hs11.symm,(by rw[hs11];exact(show ay.ok h5 (ay.mk p.Name p.dM p.aB nE (ao.mk ((aw p.aB p.aS).Kind) ((aw p.aB p.aS).N) ((aw p.aB p.aS).No) ((aw p.aB p.aS).Name) ((aw p.aB p.aS).L)) p.Mode) (ir.mk je.j3 je.j1 je.gI je.gH sd rZ (dJ.mk rr4.pE rr4.pF))from⟨(hp.dM.mono ZF ((hl1.t hle4).t hle5)),(hp.aB.mono ZF ((hl1.t hle4).t hle5)),sl2,(show ao.ok h5 (ao.mk ((aw p.aB p.aS).Kind) ((aw p.aB p.aS).N) ((aw p.aB p.aS).No) ((aw p.aB p.aS).Name) ((aw p.aB p.aS).L)) (dJ.mk rr4.pE rr4.pF)from ao.ok.of (ok4.list.mono ao.aK hle5))⟩))⟩
 .rintro i1 ⟨nE,sd,rZ,BB,hh1⟩ y1 rz1 hd1 mN kl oD yD hs12 ⟨BA,Jk,hl1⟩ hx1 ag1 e
  try dsimp only at BA Jk hl1
  have hsy:=hsm.2.1 y1 (eM hd1)
  refine qK 7 [2] U (tO mN U (qL 9 [2] U ?_))
  let z1:Nat×Obj:=(b3,O [.string p.Name,.slice je.j3 p.dM.length je.j1,.slice je.gI p.aB.length je.gH,.slice sd nE.length rZ,I p.aS.Kind,I p.aS.N,I p.aS.No,.string p.aS.Name,.slice je.aS.pE p.aS.L.length je.aS.pF,I p.Mode] 61)
  refine cN (aM (iR Hu ty65 (hp.cZ.mono fg.aK hl1).1 kl U U U (λ_ _ _ e=>e) (λq2 r2 A2 ok5=>gV ty65 A2 U U (cD zc65 (λb6=>ct 0 ty65 U U U U U U (kX (L':=[(b6,O (fg.cells y1 r2) 65),z1,z4,z7]++(BB)) U (qL 5 [] U (dD 0 ty3 U U U U U U (qL 6 [3] U (eS 0 ty59 U U U (aM (cW Nv (wW _ _ _ _ _ _ (hp.aB.mono ZF hl1) ok5.ao ob) U (λv4 h6 hle6 hp4=>?_)))))))))))))
  obtain⟨rr6,rfl,ok6⟩:=hp4
  refine qL 1 [] U (dD 0 ty59 U U U U U U (qL 4 [1] U (eS 0 ty65 U U U (aM (bW (cells:=[.string y1.Kind,I (i1:Int),I y1.gf,I ((aw p.aB y1.ao).Kind),I ((aw p.aB y1.ao).N),I ((aw p.aB y1.ao).No),.string ((aw p.aB y1.ao).Name),.slice rr6.pE ((aw p.aB y1.ao).L.length) rr6.pF]) Hu ty65 zc65 U U kr (λb7=>?_))))))
  let z5:Nat×Obj:=(b7,O [.string y1.Kind,I (i1:Int),I y1.gf,I ((aw p.aB y1.ao).Kind),I ((aw p.aB y1.ao).N),I ((aw p.aB y1.ao).No),.string ((aw p.aB y1.ao).Name),.slice rr6.pE ((aw p.aB y1.ao).L.length) rr6.pF] 65)
  let z6:Nat×Obj:=(b6,O [.string y1.Kind,I (i1:Int),I y1.gf,I ((aw p.aB y1.ao).Kind),I ((aw p.aB y1.ao).N),I ((aw p.aB y1.ao).No),.string ((aw p.aB y1.ao).Name),.slice rr6.pE ((aw p.aB y1.ao).L.length) rr6.pF] 65)
  refine aM (fd fg.eF ([z5,z6,z1,z4,z7]) ([]) (λG=>[z5,z6,z1,z4,z7]++G) ap (λ_=>ap) Hu ty65 zc65 U bytes65 (BA.mono fg.aK hle6) U U (iM 0 U (cE (R:=fg.rp) (fg.mk y1.Kind (i1:Int) y1.gf (ao.mk ((aw p.aB y1.ao).Kind) ((aw p.aB y1.ao).N) ((aw p.aB y1.ao).No) ((aw p.aB y1.ao).Name) ((aw p.aB y1.ao).L))) U ⟨(yN.mk (dJ.mk rr6.pE rr6.pF)),U,(show fg.ok h6 (fg.mk y1.Kind (i1:Int) y1.gf (ao.mk ((aw p.aB y1.ao).Kind) ((aw p.aB y1.ao).N) ((aw p.aB y1.ao).No) ((aw p.aB y1.ao).Name) ((aw p.aB y1.ao).L))) (yN.mk (dJ.mk rr6.pE rr6.pF))from⟨(show ao.ok h6 (ao.mk ((aw p.aB y1.ao).Kind) ((aw p.aB y1.ao).N) ((aw p.aB y1.ao).No) ((aw p.aB y1.ao).Name) ((aw p.aB y1.ao).L)) (dJ.mk rr6.pE rr6.pF)from ao.ok.of ok6.list)⟩)⟩)) lo lo (λob2 oc2 G2 gr2=>qL 1 [] U (dD 2 ty56 U U U U U U (qO 4 U (oi i1 U (an (dE (L':=[(b3,O [.string p.Name,.slice je.j3 p.dM.length je.j1,.slice je.gI p.aB.length je.gH,.slice ob2 ((nE++[(fg.mk y1.Kind (i1:Int) y1.gf (ao.mk ((aw p.aB y1.ao).Kind) ((aw p.aB y1.ao).N) ((aw p.aB y1.ao).No) ((aw p.aB y1.ao).Name) ((aw p.aB y1.ao).L)))]).length) oc2,I p.aS.Kind,I p.aS.N,I p.aS.No,.string p.aS.Name,.slice je.aS.pE p.aS.L.length je.aS.pF,I p.Mode] 61),z4,z7]++G2) js ?_)))))))
  exact ag1 ((nE++[(fg.mk y1.Kind (i1:Int) y1.gf (ao.mk ((aw p.aB y1.ao).Kind) ((aw p.aB y1.ao).N) ((aw p.aB y1.ao).No) ((aw p.aB y1.ao).Name) ((aw p.aB y1.ao).L)))]),ob2,oc2,G2,h6) hs12 ⟨gr2,lo,(hl1.t hle6)⟩
 rintro i1 ⟨nE,sd,rZ,BB,hh1⟩ hd1 uQ hx e
 exact qK 7 [2] U (fO uQ U (qO 3 U (hx _ rd)))
instance kC142:Ct 142:=⟨_,call142,@yn⟩
theorem C0(h a XE XD m6 Px Pw)(ha:SlC YL h XE XD a)(M2:SlC YL h Px Pw m6):Ret prog 310 [.slice XE a.length XD,.slice Px m6.length Pw] h (.bool (fL a m6)):=by
 refine sVv func310 ntmps310 ?_
 generalize hz:(fL a m6)=z
 have HA:=h0 [0,1] 5 (λs1 i=>(fL.L1 m6 (fL.K1)) s1 i)
 exact W
instance kC310:Ct 310:=⟨_,call310,@C0⟩
instance kR311:Cl 311:=⟨call311⟩
theorem C1(rec:ao->ao->Bool)(h)(a:ao)(QE m6 wy)(hrec:∀(h:HF)(qa:ao)(Vz:dJ)(TW:ao)(MF:dJ)(hqa:ao.ok h qa Vz)(Yj:ao.ok h TW MF)(_:qa.dep<a.dep),Ret prog 311 [.agg (ao.cells qa Vz).toArray,.agg (ao.cells TW MF).toArray] h (.bool (rec qa TW)))(ha:ao.ok h a QE)(M2:ao.ok h m6 wy):Ret prog 311 [.agg (ao.cells a QE).toArray,.agg (ao.cells m6 wy).toArray] h (.bool (bx.F rec a m6)):=by
 refine sVv func311 ntmps311 ?_
 generalize hz:(bx.F rec a m6)=z
 have HA:=h0 [2,3] 5 (λs1 i=>(bx.L1 rec m6 (bx.K1)) s1 i)
 exact W
theorem tz:∀(m:Nat)(h:HF)(a:ao)(QE:dJ)(m6:ao)(wy:dJ)(_:a.dep<=m)(ha:ao.ok h a QE)(M2:ao.ok h m6 wy),Ret prog 311 [.agg (ao.cells a QE).toArray,.agg (ao.cells m6 wy).toArray] h (.bool (bx.go m a m6))
 |0,h,a,QE,m6,wy,hd,ha,M2=>absurd hd (Nat.not_le.2 (ao.np _))
 |m+1,h,a,QE,m6,wy,hd,ha,M2=>C1 (bx.go m) h a QE m6 wy (λqh_ qa Vz TW MF qha Xk qd=>tz m qh_ qa Vz TW MF ob qha Xk) ha M2
theorem DU(h a QE m6 wy)(ha:ao.ok h a QE)(M2:ao.ok h m6 wy):Ret prog 311 [.agg (ao.cells a QE).toArray,.agg (ao.cells m6 wy).toArray] h (.bool (bx a m6)):=tz _ h a QE m6 wy (xE _) ha M2
instance kC311:Ct 311:=⟨_,call311,@DU⟩
theorem Ki(h a QE m6 wy)(ha:ay.ok h a QE)(M2:ay.ok h m6 wy):Ret prog 225 [.agg (ay.cells a QE).toArray,.agg (ay.cells m6 wy).toArray] h (.bool (iU a m6)):=by
 refine sVv func225 ntmps225 ?_
 generalize hz:(iU a m6)=z
 have HA:=h0 [2,3] 5 (λs1 i=>(iU.L1 m6 (iU.K1)) s1 i)
 exact W
instance kC225:Ct 225:=⟨_,call225,@Ki⟩
theorem Iq(h p je)(hp:ay.ok h p je)(hsm:smP p):Ret prog 138 [.agg (ay.cells p je).toArray] h (I (nS p)):=by
 refine sVv func138 ntmps138 ?_
 generalize hz:(nS p)=z
 have hsq:=hsm;unfold smP at hsq
 exact W
instance kC138:Ct 138:=⟨_,call138,@Iq⟩
theorem DV(h l fm fj)(hl:SlC aD.rp h fm fj l)(hsm:smV l):Ret prog 56 [.slice fm l.length fj] h (I (eb l)):=by
 refine sVv func56 ntmps56 ?_
 generalize hz:(eb l)=z
 have w0:=λ{y}(a:y∈_)=>hsm.2 y a
 have HA:=h0 [0] 3 (λs1 i=>(eb.L1 l (eb.K1)) s1 i)
 exact W
instance kC56:Ct 56:=⟨_,call56,@DV⟩
theorem Kp(h t)  : Ret prog 187 [I t] h (.bool (qz t)):=by
 refine sVv func187 ntmps187 ?_
 generalize hz:(qz t)=z
 exact W
instance kC187:Ct 187:=⟨_,call187,@Kp⟩
theorem Ko(h l fm fj dY)(hl:SlC vB h fm fj l):Ret prog 226 [.slice fm l.length fj,I dY] h (.bool (fT l dY)):=by
 refine sVv func226 ntmps226 ?_
 generalize hz:(fT l dY)=z
 have HA:=h0 [0,1] 5 (λs1 i=>(fT.L1 l dY (fT.K1 l)) s1 i)
 exact W
instance kC226:Ct 226:=⟨_,call226,@Ko⟩
theorem Iv(h d BH)(hd:av.ok h d BH):Ret prog 139 [.agg (av.cells d BH).toArray] h (.bool (nk d)):=by
 refine sVv func139 ntmps139 ?_
 generalize hz:(nk d)=z
 exact W
instance kC139:Ct 139:=⟨_,call139,@Iv⟩
theorem CI(h l fm fj no)(hl:SlC av.rp h fm fj l):Ret prog 195 [.slice fm l.length fj,I no] h (I (gx l no)):=by
 refine sVv func195 ntmps195 ?_
 generalize hz:(gx l no)=z
 have HA:=h0 [0,1] 5 (λs1 i=>(gx.L1 no (gx.K1)) s1 i)
 exact W
instance kC195:Ct 195:=⟨_,call195,@CI⟩
theorem It(h l fm fj nos Wk Wj)(hl:SlC av.rp h fm fj l)(hnos:SlC vB h Wk Wj nos):Ret prog 140 [.slice fm l.length fj,.slice Wk nos.length Wj] h (.bool (fS l nos)):=by
 refine sVv func140 ntmps140 ?_
 generalize hz:(fS l nos)=z
 have HA:=h0 [0,1] 5 (λs1 i=>(fS.L1 l (fS.K1)) s1)
 exact W
instance kC140:Ct 140:=⟨_,call140,@It⟩
theorem Ix(h l fm fj)(hl:SlC av.rp h fm fj l):Ret prog 57 [.slice fm l.length fj] h (I (eB l)):=by
 refine sVv func57 ntmps57 ?_
 generalize hz:(eB l)=z
 have HA:=h0 [0] 3 (λs1 i=>(eB.L1 l (eB.K1)) s1 i)
 exact W
instance kC57:Ct 57:=⟨_,call57,@Ix⟩
theorem Gy(h gj most)  : Ret prog 227 [I gj,I most] h (.bool (lT gj most)):=by
 refine sVv func227 ntmps227 ?_
 generalize hz:(lT gj most)=z
 exact W
instance kC227:Ct 227:=⟨_,call227,@Gy⟩
theorem Kf(h gj)  : Ret prog 228 [I gj] h (.bool (vO gj)):=by
 refine sVv func228 ntmps228 ?_
 generalize hz:(vO gj)=z
 exact W
instance kC228:Ct 228:=⟨_,call228,@Kf⟩
theorem MA(h gj)  : Ret prog 229 [I gj] h (.bool (BV gj)):=by
 refine sVv func229 ntmps229 ?_
 generalize hz:(BV gj)=z
 exact W
instance kC229:Ct 229:=⟨_,call229,@MA⟩
theorem Ij(h)(x:ai)  : Ret prog 141 [.agg (ai.cells x).toArray] h (.bool (nR x)):=by
 refine sVv func141 ntmps141 ?_
 generalize hz:(nR x)=z
 exact W
instance kC141:Ct 141:=⟨_,call141,@Ij⟩
theorem Ik(h l fm fj)(hl:SlC ai.rp h fm fj l):Ret prog 58 [.slice fm l.length fj] h (I (jk l)):=by
 refine sVv func58 ntmps58 ?_
 generalize hz:(jk l)=z
 have HA:=h0 [0] 3 (λs1 i=>(jk.L1 l (jk.K1)) s1 i)
 exact W
instance kC58:Ct 58:=⟨_,call58,@Ik⟩
end
end Go.Sg
